-- Written by a program of this session (wip/print/myprint.py) over the kit's printer; Lean checks it.
import Derived.Test.YtaclbccjcjdbpaaMFx0
import Derived.Test.YtaclbccjcjdbpaaMFx10
import Derived.Test.YtaclbccjcjdbpaaMFx13
namespace Go.Proofs.Ytaclbccjcjdbpaa.MF
open Go.RowKit Go.Proofs.YtaclbccjcjdbpaaW.PrintWords Go.Proofs.YtaclbccjcjdbpaaW.PrintLast Go.Proofs.YtaclbccjcjdbpaaW.PrintMore Go.Proofs.YtaclbccjcjdbpaaV
attribute [local go_sem] max2_int min2_int max_two min_two max_three min_three max_four min_four   -- for this text's walks alone
set_option linter.unusedVariables false
set_option linter.unusedSimpArgs false

/-! ### impl_FarthestApart: function 25 -/
mutual
def impl_FarthestApart.j0 : Nat → List (S34) → Bool → Option (Int × Int × Int × Int × Int × Bool)
  | 0, _, _ => none
  | k + 1, x0, x22 => if x22 = true then (some (0, 0, 0, 0, 0, false)) else ((impl_sorted.f x0).bind fun t256 => (impl_FarthestApart.l0 k 0 t256 t256 (t256.length : Int) 0 0 0 0 0))
def impl_FarthestApart.l0 : Nat → Int → List (S34) → List (S34) → Int → Int → Int → Int → Int → Int → Option (Int × Int × Int × Int × Int × Bool)
  | 0, _, _, _, _, _, _, _, _, _ => none
  | k + 1, x8, x9, x29, x30, x31, x255000, x255001, x256000, x256001 => if x31 < x30 then (if 0 ≤ x31 then (if x31 < (x29.length : Int) then (if 0 ≤ (wrap64 (x31 + 1)) then (if (wrap64 (x31 + 1)) ≤ (x9.length : Int) then ((some (x9.drop ((wrap64 (x31 + 1)) : Int).toNat : List (S34))).bind fun y261 => (impl_FarthestApart.l1 k x8 x9 x29 x30 x31 y261 (y261.length : Int) 0 x255000 x255001 x256000 x256001 ((rd_T34 x29 x31).f0) ((rd_T34 x29 x31).f1))) else (none)) else (none)) else (none)) else (none)) else (some (x255000, x255001, x256000, x256001, x8, true))
def impl_FarthestApart.l1 : Nat → Int → List (S34) → List (S34) → Int → Int → List (S34) → Int → Int → Int → Int → Int → Int → Int → Int → Option (Int × Int × Int × Int × Int × Bool)
  | 0, _, _, _, _, _, _, _, _, _, _, _, _, _, _ => none
  | k + 1, x8, x9, x29, x30, x31, x39, x40, x41, x255000, x255001, x256000, x256001, x261000, x261001 => if x41 < x40 then (if 0 ≤ x41 then (if x41 < (x39.length : Int) then ((impl_Peg_less.f x261000 x261001 ((rd_T34 x39 x41).f0) ((rd_T34 x39 x41).f1)).bind fun bt267 => ((impl_Peg_square.f bt267.1 bt267.2).bind fun t269 => (if t269 > x8 then (impl_FarthestApart.l1 k t269 x9 x29 x30 x31 x39 x40 (wrap64 (x41 + 1)) x261000 x261001 ((rd_T34 x39 x41).f0) ((rd_T34 x39 x41).f1) x261000 x261001) else (impl_FarthestApart.l1 k x8 x9 x29 x30 x31 x39 x40 (wrap64 (x41 + 1)) x255000 x255001 x256000 x256001 x261000 x261001)))) else (none)) else (none)) else (impl_FarthestApart.l0 k x8 x9 x29 x30 (wrap64 (x31 + 1)) x255000 x255001 x256000 x256001)
end
def impl_FarthestApart.f (k : Nat) (l0 : List (S34)) : Option (Int × Int × Int × Int × Int × Bool) := (impl_AreDifferent.f k l0).bind fun t253 => (if t253 = true then (impl_FarthestApart.j0 k l0 (decide ((l0.length : Int) < 2))) else (impl_FarthestApart.j0 k l0 true))
theorem impl_FarthestApart.mono_l : ∀ k, (∀ y0 y1, LeO (impl_FarthestApart.j0 k y0 y1) (impl_FarthestApart.j0 (k + 1) y0 y1)) ∧ (∀ y0 y1 y2 y3 y4 y5 y6 y7 y8, LeO (impl_FarthestApart.l0 k y0 y1 y2 y3 y4 y5 y6 y7 y8) (impl_FarthestApart.l0 (k + 1) y0 y1 y2 y3 y4 y5 y6 y7 y8)) ∧ (∀ y0 y1 y2 y3 y4 y5 y6 y7 y8 y9 y10 y11 y12 y13, LeO (impl_FarthestApart.l1 k y0 y1 y2 y3 y4 y5 y6 y7 y8 y9 y10 y11 y12 y13) (impl_FarthestApart.l1 (k + 1) y0 y1 y2 y3 y4 y5 y6 y7 y8 y9 y10 y11 y12 y13))
  | 0 => ⟨fun _ _ r h => by simp [impl_FarthestApart.j0] at h, fun _ _ _ _ _ _ _ _ _ r h => by simp [impl_FarthestApart.l0] at h, fun _ _ _ _ _ _ _ _ _ _ _ _ _ _ r h => by simp [impl_FarthestApart.l1] at h⟩
  | k + 1 => by
    obtain ⟨ih0, ih1, ih2⟩ := impl_FarthestApart.mono_l k
    refine ⟨?_, ?_, ?_⟩
    · intro y0 y1
      unfold impl_FarthestApart.j0
      repeat' first
      | (with_reducible exact ih0 _ _)
      | (with_reducible exact ih1 _ _ _ _ _ _ _ _ _)
      | (with_reducible exact ih2 _ _ _ _ _ _ _ _ _ _ _ _ _ _)
      | (with_reducible exact impl_AreDifferent.mono _ _)
      | (with_reducible exact LeO.refl _)
      | (with_reducible exact LeO.none _)
      | (with_reducible refine LeO.ite ?_ ?_)
      | (with_reducible refine LeO.bind ?_ (fun _ => ?_))
      | exact ih0 _ _
      | exact ih1 _ _ _ _ _ _ _ _ _
      | exact ih2 _ _ _ _ _ _ _ _ _ _ _ _ _ _
      | exact impl_AreDifferent.mono _ _
      | exact LeO.none _
      | refine LeO.ite ?_ ?_
      | refine LeO.bind ?_ (fun _ => ?_)
    · intro y0 y1 y2 y3 y4 y5 y6 y7 y8
      unfold impl_FarthestApart.l0
      repeat' first
      | (with_reducible exact ih0 _ _)
      | (with_reducible exact ih1 _ _ _ _ _ _ _ _ _)
      | (with_reducible exact ih2 _ _ _ _ _ _ _ _ _ _ _ _ _ _)
      | (with_reducible exact impl_AreDifferent.mono _ _)
      | (with_reducible exact LeO.refl _)
      | (with_reducible exact LeO.none _)
      | (with_reducible refine LeO.ite ?_ ?_)
      | (with_reducible refine LeO.bind ?_ (fun _ => ?_))
      | exact ih0 _ _
      | exact ih1 _ _ _ _ _ _ _ _ _
      | exact ih2 _ _ _ _ _ _ _ _ _ _ _ _ _ _
      | exact impl_AreDifferent.mono _ _
      | exact LeO.none _
      | refine LeO.ite ?_ ?_
      | refine LeO.bind ?_ (fun _ => ?_)
    · intro y0 y1 y2 y3 y4 y5 y6 y7 y8 y9 y10 y11 y12 y13
      unfold impl_FarthestApart.l1
      repeat' first
      | (with_reducible exact ih0 _ _)
      | (with_reducible exact ih1 _ _ _ _ _ _ _ _ _)
      | (with_reducible exact ih2 _ _ _ _ _ _ _ _ _ _ _ _ _ _)
      | (with_reducible exact impl_AreDifferent.mono _ _)
      | (with_reducible exact LeO.refl _)
      | (with_reducible exact LeO.none _)
      | (with_reducible refine LeO.ite ?_ ?_)
      | (with_reducible refine LeO.bind ?_ (fun _ => ?_))
      | exact ih0 _ _
      | exact ih1 _ _ _ _ _ _ _ _ _
      | exact ih2 _ _ _ _ _ _ _ _ _ _ _ _ _ _
      | exact impl_AreDifferent.mono _ _
      | exact LeO.none _
      | refine LeO.ite ?_ ?_
      | refine LeO.bind ?_ (fun _ => ?_)
theorem impl_FarthestApart.mono : ∀ a0 k, LeO (impl_FarthestApart.f k a0) (impl_FarthestApart.f (k + 1) a0) := by
  intro a0 k
  obtain ⟨ih0, ih1, ih2⟩ := impl_FarthestApart.mono_l k
  unfold impl_FarthestApart.f
  repeat' first
      | (with_reducible exact ih0 _ _)
      | (with_reducible exact ih1 _ _ _ _ _ _ _ _ _)
      | (with_reducible exact ih2 _ _ _ _ _ _ _ _ _ _ _ _ _ _)
      | (with_reducible exact impl_AreDifferent.mono _ _)
      | (with_reducible exact LeO.refl _)
      | (with_reducible exact LeO.none _)
      | (with_reducible refine LeO.ite ?_ ?_)
      | (with_reducible refine LeO.bind ?_ (fun _ => ?_))
      | exact ih0 _ _
      | exact ih1 _ _ _ _ _ _ _ _ _
      | exact ih2 _ _ _ _ _ _ _ _ _ _ _ _ _ _
      | exact impl_AreDifferent.mono _ _
      | exact LeO.none _
      | refine LeO.ite ?_ ?_
      | refine LeO.bind ?_ (fun _ => ?_)
set_option maxHeartbeats 8000000 in
set_option maxRecDepth 100000 in
theorem impl_FarthestApart.calls (k : Nat) (A0 : Option Addr) (c0 : Nat) (l0 : List (S34)) (r1 : Int) (r2 : Int) (r3 : Int) (r4 : Int) (r5 : Int) (r6 : Bool) (w : World) (hr0 : Kd.C k34 w A0 l0.length l0) (hc0 : l0.length ≤ c0) (h : impl_FarthestApart.f k l0 = some (r1, r2, r3, r4, r5, r6)) :
    Calls Try.prog 25 #[.slice A0 l0.length c0] w fun e w' => e = .returned (.tuple #[.agg #[.int .i64 r1, .int .i64 r2], .agg #[.int .i64 r3, .int .i64 r4], .int .i64 r5, .bool r6]) ∧ Below w.heap.size w w' := by
  have hu34 := Try.underlying34
  have HR0 := Aside0.mk hr0
  have HC0 := Aside0.mk hc0
  clear hr0 hc0
  have HB := Aside0.mk (Below.refl w.heap.size w)
  have H : ((impl_AreDifferent.f k l0).bind fun t253 => (if t253 = true then (impl_FarthestApart.j0 k l0 (decide ((l0.length : Int) < 2))) else (impl_FarthestApart.j0 k l0 true))) = some (r1, r2, r3, r4, r5, r6) := h
  clear h
  have HC2 := Aside0.mk H
  clear H
  go_enter Try.func25, Try.ntmps25
  go_upto_region 1 with (first | ((with_reducible refine gate_dst (N := 2) rfl ?_); (try (refine gate_guard (by rfl) ?_; dsimp only)); refine box_event ?hg (N := 2) ?hd (cs := #[.int .i64 0, .int .i64 0]) (t := 34) ?hr ?_; (case hd => rfl); (case hg => rfl); (case hr => first | (go_simp; done) | (go_simp; rfl)); intro gb251 hg w3 hbox hb; have n0_ := Aside0.mk (below_step (hb_) hb); have n1_ := Aside0.mk (hbox); have n2_ := Aside0.mk ((by rw [hg]; exact (below_size (hb_)) : w.heap.size ≤ gb251)); have n3_ := Aside0.mk ((by rw [hg]; exact (below_size (hb_)) : w.heap.size ≤ gb251)); clear HB; have HB := n0_; have BK251 := n1_; have GW251 := n2_; have GE251 := n3_; clear n0_ n1_ n2_ n3_; clear hb hbox hg) | ((with_reducible refine gate_dst (N := 3) rfl ?_); (try (refine gate_guard (by rfl) ?_; dsimp only)); refine box_event ?hg (N := 3) ?hd (cs := #[.int .i64 0, .int .i64 0]) (t := 34) ?hr ?_; (case hd => rfl); (case hg => rfl); (case hr => first | (go_simp; done) | (go_simp; rfl)); intro gb252 hg w4 hbox hb; have n0_ := bb_ BK251 hb; have n1_ := Aside0.mk (below_step (hbg_) hb); have n2_ := Aside0.mk (hbox); have n3_ := Aside0.mk ((by rw [hg]; exact (below_size (hbg_)) : w.heap.size ≤ gb252)); have n4_ := Aside0.mk ((by rw [hg]; exact (below_size (hbg_)) : w.heap.size ≤ gb252)); have n5_ := Aside0.mk ((by rw [hg]; exact Nat.ne_of_lt (blk_lt (bk_ BK251.out)) : gb251 ≠ gb252)); have n6_ := Aside0.mk ((by rw [hg]; exact Nat.ne_of_gt (blk_lt (bk_ BK251.out)) : gb252 ≠ gb251)); clear BK251; clear HB; have BK251 := n0_; have HB := n1_; have BK252 := n2_; have GW252 := n3_; have GE252 := n4_; have NB251_252 := n5_; have NB252_251 := n6_; clear n0_ n1_ n2_ n3_ n4_ n5_ n6_; clear hb hbox hg))
  (try simp only [Act.put, List.setIfInBounds_toArray, List.set_cons_zero, List.set_cons_succ])
  go_cut [22] (fun v22 wc => ∃ (kq : Nat) (x22_1 : Bool), v22 = .bool x22_1 ∧ Aside0 (impl_FarthestApart.j0 kq l0 x22_1 = some (r1, r2, r3, r4, r5, r6)) ∧ Aside0 (kq ≤ k) ∧ Aside0 (wc.heap[gb251]? = some (.cells #[.int .i64 0, .int .i64 0] 34 (0, 0))) ∧ Aside0 (wc.heap[gb252]? = some (.cells #[.int .i64 0, .int .i64 0] 34 (0, 0))) ∧ Aside0 (Below w.heap.size w wc))
  case first =>
    have H := HC2.out
    clear HC2
    replace H := Option.bind_eq_some_iff.mp H
    obtain ⟨t253, A50, H⟩ := H
    replace H : (if t253 = true then (impl_FarthestApart.j0 k l0 (decide ((l0.length : Int) < 2))) else (impl_FarthestApart.j0 k l0 true)) = some (r1, r2, r3, r4, r5, r6) := H
    have A5 := Aside0.mk A50
    clear A50
    by_cases c6 : t253 = true
    · subst c6
      have H1 : (impl_FarthestApart.j0 k l0 (decide ((l0.length : Int) < 2))) = some (r1, r2, r3, r4, r5, r6) := by rw [if_pos rfl] at H; exact H
      clear H
      have H := H1
      clear H1
      have H' := Aside0.mk H
      clear H
      go_wp2_with (first | ((with_reducible refine gate_callee (f := 18) rfl ?_); refine goesL_ (some 16) rfl rfl Try.func18 (by kernel_rfl) rfl #[.slice A0 l0.length c0] rfl ga_ ?_; (with_reducible refine (impl_AreDifferent.calls k _ _ l0 true _ ?side1 ?side2 A5.out).mono ?_); (case side1 => repeat (first | exact (Kd.C_below HR0.out HB.out) | (with_reducible refine Kd.C_alloc ?_ _) | (with_reducible refine Kd.C_drewN ?_ _) | (with_reducible refine Kd.C_drew ?_))); (case side2 => exact HC0.out); rintro e w7 ⟨rfl, hb⟩; refine ⟨_, rfl, ?_⟩; have n0_ := bb_ BK251 hb; have n1_ := bb_ BK252 hb; have n2_ := Aside0.mk (below_step (hbg_) hb); clear BK251; clear BK252; clear HB; have BK251 := n0_; have BK252 := n1_; have HB := n2_; clear n0_ n1_ n2_; (try clear hb); (try clear hb2); (try clear hk); (try clear hi)))
      go_meet
      case rel => exact ⟨_, (decide ((l0.length : Int) < 2)), (by first | rfl | (simp; done) | (simp [*]; done)), H', ⟨by first | omega | exact Nat.le_refl _⟩, ⟨bk_ BK251.out⟩, ⟨bk_ BK252.out⟩, ⟨hbg_⟩⟩
    · replace c6 := Bool.eq_false_iff.mpr c6
      subst c6
      have H1 : (impl_FarthestApart.j0 k l0 true) = some (r1, r2, r3, r4, r5, r6) := by rw [if_neg (show ¬ (false = true) by decide)] at H; exact H
      clear H
      have H := H1
      clear H1
      have H' := Aside0.mk H
      clear H
      go_wp2_with (first | ((with_reducible refine gate_callee (f := 18) rfl ?_); refine goesL_ (some 16) rfl rfl Try.func18 (by kernel_rfl) rfl #[.slice A0 l0.length c0] rfl ga_ ?_; (with_reducible refine (impl_AreDifferent.calls k _ _ l0 false _ ?side1 ?side2 A5.out).mono ?_); (case side1 => repeat (first | exact (Kd.C_below HR0.out HB.out) | (with_reducible refine Kd.C_alloc ?_ _) | (with_reducible refine Kd.C_drewN ?_ _) | (with_reducible refine Kd.C_drew ?_))); (case side2 => exact HC0.out); rintro e w8 ⟨rfl, hb⟩; refine ⟨_, rfl, ?_⟩; have n0_ := bb_ BK251 hb; have n1_ := bb_ BK252 hb; have n2_ := Aside0.mk (below_step (hbg_) hb); clear BK251; clear BK252; clear HB; have BK251 := n0_; have BK252 := n1_; have HB := n2_; clear n0_ n1_ n2_; (try clear hb); (try clear hb2); (try clear hk); (try clear hi)))
      go_meet
      case rel => exact ⟨_, (true), (by first | rfl | (simp; done) | (simp [*]; done)), H', ⟨by first | omega | exact Nat.le_refl _⟩, ⟨bk_ BK251.out⟩, ⟨bk_ BK252.out⟩, ⟨hbg_⟩⟩
  case rest =>
    clear HC2
    try clear c1
    try clear c2
    try clear p2
    try clear c6
    obtain ⟨kq, x22_1, rfl, HA, HJ1, BK251, BK252, HB⟩ := hcut
    cases kq with
    | zero => exact absurd HA.out (by simp [impl_FarthestApart.j0])
    | succ kj1 =>
      have H := HA.out
      clear HA
      simp only [impl_FarthestApart.j0] at H
      by_cases c9 : x22_1 = true
      · subst c9
        have H1 : (some (0, 0, 0, 0, 0, false)) = some (r1, r2, r3, r4, r5, r6) := by rw [if_pos rfl] at H; exact H
        clear H
        have H := H1
        clear H1
        simp only [Option.some.injEq, Prod.mk.injEq] at H
        obtain ⟨rfl, rfl, rfl, rfl, rfl, rfl⟩ := H
        have hnb10 := NB251_252.out
        have hnc10 := NB252_251.out
        have hcz11_0 : wc.cell? ⟨gb251, 0, none⟩ = some (.int .i64 0) := (blk_cell BK251.out 0).trans rfl
        have hcz11_1 : wc.cell? ⟨gb251, 1, none⟩ = some (.int .i64 0) := (blk_cell BK251.out 1).trans rfl
        have hfz11_0 := blk_frozen BK251.out 0
        have hfz11_1 := blk_frozen BK251.out 1
        have hcz12_0 : wc.cell? ⟨gb252, 0, none⟩ = some (.int .i64 0) := (blk_cell BK252.out 0).trans rfl
        have hcz12_1 : wc.cell? ⟨gb252, 1, none⟩ = some (.int .i64 0) := (blk_cell BK252.out 1).trans rfl
        have hfz12_0 := blk_frozen BK252.out 0
        have hfz12_1 := blk_frozen BK252.out 1
        go_wp2
        refine bodyPost_ret (results_list (rs := [.cell 2 34, .cell 3 34, .tmp 4, .tmp 5]) rfl (by simp) (.cell gb251 34 #[.int .i64 0, .int .i64 0] (0, 0) _ rfl (by (with_reducible repeat (first | refine blk_drewN ?_ _ | refine blk_drew ?_ | refine blk_alloc ?_ _)); refine blk_far ?_ NB251_252.out _; (with_reducible repeat (first | refine blk_drewN ?_ _ | refine blk_drew ?_ | refine blk_alloc ?_ _)); refine blk_far ?_ NB251_252.out _; (with_reducible repeat (first | refine blk_drewN ?_ _ | refine blk_drew ?_ | refine blk_alloc ?_ _)); refine blk_put (cs := #[.int .i64 0, .int .i64 0]) ?_ 1 _ rfl; (with_reducible repeat (first | refine blk_drewN ?_ _ | refine blk_drew ?_ | refine blk_alloc ?_ _)); refine blk_put (cs := #[.int .i64 0, .int .i64 0]) ?_ 0 _ rfl; (with_reducible repeat (first | refine blk_drewN ?_ _ | refine blk_drew ?_ | refine blk_alloc ?_ _)); exact BK251.out) Try.underlying34 rfl (by kernel_rfl) (.cell gb252 34 #[.int .i64 0, .int .i64 0] (0, 0) _ rfl (by (with_reducible repeat (first | refine blk_drewN ?_ _ | refine blk_drew ?_ | refine blk_alloc ?_ _)); refine blk_put (cs := #[.int .i64 0, .int .i64 0]) ?_ 1 _ rfl; (with_reducible repeat (first | refine blk_drewN ?_ _ | refine blk_drew ?_ | refine blk_alloc ?_ _)); refine blk_put (cs := #[.int .i64 0, .int .i64 0]) ?_ 0 _ rfl; (with_reducible repeat (first | refine blk_drewN ?_ _ | refine blk_drew ?_ | refine blk_alloc ?_ _)); refine blk_far ?_ NB252_251.out _; (with_reducible repeat (first | refine blk_drewN ?_ _ | refine blk_drew ?_ | refine blk_alloc ?_ _)); refine blk_far ?_ NB252_251.out _; (with_reducible repeat (first | refine blk_drewN ?_ _ | refine blk_drew ?_ | refine blk_alloc ?_ _)); exact BK252.out) Try.underlying34 rfl (by kernel_rfl) (.tmp (.tmp .nil))))) rfl ?_
        exact ⟨by first | rfl | (simp [errW_none, errW_some] <;> rfl) | (simp [*, errW_none, errW_some] <;> rfl), hbg_⟩
      · replace c9 := Bool.eq_false_iff.mpr c9
        subst c9
        have H1 : ((impl_sorted.f l0).bind fun t256 => (impl_FarthestApart.l0 kj1 0 t256 t256 (t256.length : Int) 0 0 0 0 0)) = some (r1, r2, r3, r4, r5, r6) := by rw [if_neg (show ¬ (false = true) by decide)] at H; exact H
        clear H
        have H := H1
        clear H1
        replace H := Option.bind_eq_some_iff.mp H
        obtain ⟨t256, A130, H⟩ := H
        replace H : (impl_FarthestApart.l0 kj1 0 t256 t256 (t256.length : Int) 0 0 0 0 0) = some (r1, r2, r3, r4, r5, r6) := H
        have A13 := Aside0.mk A130
        clear A130
        have H' := Aside0.mk H
        clear H
        go_wp2_with (first | ((with_reducible refine gate_dst (N := 6) rfl ?_); (try (refine gate_guard (by rfl) ?_; dsimp only)); refine box_event ?hg (N := 6) ?hd (cs := #[.int .i64 0, .int .i64 0]) (t := 34) ?hr ?_; (case hd => rfl); (case hg => rfl); (case hr => first | (go_simp; done) | (go_simp; rfl)); intro gb254 hg w14 hbox hb; have n0_ := bb_ BK251 hb; have n1_ := bb_ BK252 hb; have n2_ := Aside0.mk (below_step (hbg_) hb); have n3_ := Aside0.mk (hbox); have n4_ := Aside0.mk ((by rw [hg]; exact (below_size (hbg_)) : w.heap.size ≤ gb254)); have n5_ := Aside0.mk ((by rw [hg]; exact (below_size (hbg_)) : w.heap.size ≤ gb254)); have n6_ := Aside0.mk ((by rw [hg]; exact Nat.ne_of_lt (blk_lt (bk_ BK251.out)) : gb251 ≠ gb254)); have n7_ := Aside0.mk ((by rw [hg]; exact Nat.ne_of_gt (blk_lt (bk_ BK251.out)) : gb254 ≠ gb251)); have n8_ := Aside0.mk ((by rw [hg]; exact Nat.ne_of_lt (blk_lt (bk_ BK252.out)) : gb252 ≠ gb254)); have n9_ := Aside0.mk ((by rw [hg]; exact Nat.ne_of_gt (blk_lt (bk_ BK252.out)) : gb254 ≠ gb252)); clear BK251; clear BK252; clear HB; have BK251 := n0_; have BK252 := n1_; have HB := n2_; have BK254 := n3_; have GW254 := n4_; have GE254 := n5_; have NB251_254 := n6_; have NB254_251 := n7_; have NB252_254 := n8_; have NB254_252 := n9_; clear n0_ n1_ n2_ n3_ n4_ n5_ n6_ n7_ n8_ n9_; clear hb hbox hg) | ((with_reducible refine gate_dst (N := 7) rfl ?_); (try (refine gate_guard (by rfl) ?_; dsimp only)); refine box_event ?hg (N := 7) ?hd (cs := #[.int .i64 0, .int .i64 0]) (t := 34) ?hr ?_; (case hd => rfl); (case hg => rfl); (case hr => first | (go_simp; done) | (go_simp; rfl)); intro gb255 hg w15 hbox hb; have n0_ := bb_ BK251 hb; have n1_ := bb_ BK252 hb; have n2_ := bb_ BK254 hb; have n3_ := Aside0.mk (below_step (hbg_) hb); have n4_ := Aside0.mk (hbox); have n5_ := Aside0.mk ((by rw [hg]; exact (below_size (hbg_)) : w.heap.size ≤ gb255)); have n6_ := Aside0.mk ((by rw [hg]; exact (below_size (hbg_)) : w.heap.size ≤ gb255)); have n7_ := Aside0.mk ((by rw [hg]; exact Nat.ne_of_lt (blk_lt (bk_ BK251.out)) : gb251 ≠ gb255)); have n8_ := Aside0.mk ((by rw [hg]; exact Nat.ne_of_gt (blk_lt (bk_ BK251.out)) : gb255 ≠ gb251)); have n9_ := Aside0.mk ((by rw [hg]; exact Nat.ne_of_lt (blk_lt (bk_ BK252.out)) : gb252 ≠ gb255)); have n10_ := Aside0.mk ((by rw [hg]; exact Nat.ne_of_gt (blk_lt (bk_ BK252.out)) : gb255 ≠ gb252)); have n11_ := Aside0.mk ((by rw [hg]; exact Nat.ne_of_lt (blk_lt (bk_ BK254.out)) : gb254 ≠ gb255)); have n12_ := Aside0.mk ((by rw [hg]; exact Nat.ne_of_gt (blk_lt (bk_ BK254.out)) : gb255 ≠ gb254)); clear BK251; clear BK252; clear BK254; clear HB; have BK251 := n0_; have BK252 := n1_; have BK254 := n2_; have HB := n3_; have BK255 := n4_; have GW255 := n5_; have GE255 := n6_; have NB251_255 := n7_; have NB255_251 := n8_; have NB252_255 := n9_; have NB255_252 := n10_; have NB254_255 := n11_; have NB255_254 := n12_; clear n0_ n1_ n2_ n3_ n4_ n5_ n6_ n7_ n8_ n9_ n10_ n11_ n12_; clear hb hbox hg; have hnb16 := NB254_251.out; have hnc16 := NB251_254.out; have hnb17 := NB254_252.out; have hnc17 := NB252_254.out; have hnb18 := NB254_255.out; have hnc18 := NB255_254.out; have hcz19_0 : w15.cell? ⟨gb254, 0, none⟩ = some (.int .i64 0) := (blk_cell BK254.out 0).trans rfl; have hcz19_1 : w15.cell? ⟨gb254, 1, none⟩ = some (.int .i64 0) := (blk_cell BK254.out 1).trans rfl; have hfz19_0 := blk_frozen BK254.out 0; have hfz19_1 := blk_frozen BK254.out 1; have hnb20 := NB255_251.out; have hnc20 := NB251_255.out; have hnb21 := NB255_252.out; have hnc21 := NB252_255.out; have hcz22_0 : w15.cell? ⟨gb255, 0, none⟩ = some (.int .i64 0) := (blk_cell BK255.out 0).trans rfl; have hcz22_1 : w15.cell? ⟨gb255, 1, none⟩ = some (.int .i64 0) := (blk_cell BK255.out 1).trans rfl; have hfz22_0 := blk_frozen BK255.out 0; have hfz22_1 := blk_frozen BK255.out 1) | ((with_reducible refine gate_callee (f := 55) rfl ?_); refine goesL_ (some 28) rfl rfl Try.func55 (by kernel_rfl) rfl #[.slice A0 l0.length c0] rfl ga_ ?_; (with_reducible refine (impl_sorted.calls _ _ l0 t256 _ ?side1 ?side2 A13.out).mono ?_); (case side1 => exact Kd.C_below HR0.out (hbg_)); (case side2 => exact HC0.out); rintro e w23 ⟨v257, rfl, ho0, hb⟩; refine ⟨_, rfl, ?_⟩; have n0_ := Aside0.mk (Kd.R_lower (Kd.R_newB (Kd.R_newB (Kd.R_newB (Kd.R_newB ho0 (g := gb251) (o := .cells #[.int .i64 0, .int .i64 0] 34 (0, 0)) (by (with_reducible repeat (first | refine blk_drewN ?_ _ | refine blk_drew ?_ | refine blk_alloc ?_ _)); refine blk_far ?_ NB251_255.out _; (with_reducible repeat (first | refine blk_drewN ?_ _ | refine blk_drew ?_ | refine blk_alloc ?_ _)); refine blk_far ?_ NB251_255.out _; (with_reducible repeat (first | refine blk_drewN ?_ _ | refine blk_drew ?_ | refine blk_alloc ?_ _)); refine blk_far ?_ NB251_254.out _; (with_reducible repeat (first | refine blk_drewN ?_ _ | refine blk_drew ?_ | refine blk_alloc ?_ _)); refine blk_far ?_ NB251_254.out _; (with_reducible repeat (first | refine blk_drewN ?_ _ | refine blk_drew ?_ | refine blk_alloc ?_ _)); exact BK251.out)) (g := gb252) (o := .cells #[.int .i64 0, .int .i64 0] 34 (0, 0)) (by (with_reducible repeat (first | refine blk_drewN ?_ _ | refine blk_drew ?_ | refine blk_alloc ?_ _)); refine blk_far ?_ NB252_255.out _; (with_reducible repeat (first | refine blk_drewN ?_ _ | refine blk_drew ?_ | refine blk_alloc ?_ _)); refine blk_far ?_ NB252_255.out _; (with_reducible repeat (first | refine blk_drewN ?_ _ | refine blk_drew ?_ | refine blk_alloc ?_ _)); refine blk_far ?_ NB252_254.out _; (with_reducible repeat (first | refine blk_drewN ?_ _ | refine blk_drew ?_ | refine blk_alloc ?_ _)); refine blk_far ?_ NB252_254.out _; (with_reducible repeat (first | refine blk_drewN ?_ _ | refine blk_drew ?_ | refine blk_alloc ?_ _)); exact BK252.out)) (g := gb254) (o := .cells #[.int .i64 0, .int .i64 0] 34 (0, 0)) (by (with_reducible repeat (first | refine blk_drewN ?_ _ | refine blk_drew ?_ | refine blk_alloc ?_ _)); refine blk_far ?_ NB254_255.out _; (with_reducible repeat (first | refine blk_drewN ?_ _ | refine blk_drew ?_ | refine blk_alloc ?_ _)); refine blk_far ?_ NB254_255.out _; (with_reducible repeat (first | refine blk_drewN ?_ _ | refine blk_drew ?_ | refine blk_alloc ?_ _)); refine blk_put (cs := #[.int .i64 0, .int .i64 0]) ?_ 1 _ rfl; (with_reducible repeat (first | refine blk_drewN ?_ _ | refine blk_drew ?_ | refine blk_alloc ?_ _)); refine blk_put (cs := #[.int .i64 0, .int .i64 0]) ?_ 0 _ rfl; (with_reducible repeat (first | refine blk_drewN ?_ _ | refine blk_drew ?_ | refine blk_alloc ?_ _)); exact BK254.out)) (g := gb255) (o := .cells #[.int .i64 0, .int .i64 0] 34 (0, 0)) (by (with_reducible repeat (first | refine blk_drewN ?_ _ | refine blk_drew ?_ | refine blk_alloc ?_ _)); refine blk_put (cs := #[.int .i64 0, .int .i64 0]) ?_ 1 _ rfl; (with_reducible repeat (first | refine blk_drewN ?_ _ | refine blk_drew ?_ | refine blk_alloc ?_ _)); refine blk_put (cs := #[.int .i64 0, .int .i64 0]) ?_ 0 _ rfl; (with_reducible repeat (first | refine blk_drewN ?_ _ | refine blk_drew ?_ | refine blk_alloc ?_ _)); refine blk_far ?_ NB255_254.out _; (with_reducible repeat (first | refine blk_drewN ?_ _ | refine blk_drew ?_ | refine blk_alloc ?_ _)); refine blk_far ?_ NB255_254.out _; (with_reducible repeat (first | refine blk_drewN ?_ _ | refine blk_drew ?_ | refine blk_alloc ?_ _)); exact BK255.out)) (below_size (hbg_))); have n1_ := Aside0.mk (blk_below (g := gb251) (o := .cells #[.int .i64 0, .int .i64 0] 34 (0, 0)) (by (with_reducible repeat (first | refine blk_drewN ?_ _ | refine blk_drew ?_ | refine blk_alloc ?_ _)); refine blk_far ?_ NB251_255.out _; (with_reducible repeat (first | refine blk_drewN ?_ _ | refine blk_drew ?_ | refine blk_alloc ?_ _)); refine blk_far ?_ NB251_255.out _; (with_reducible repeat (first | refine blk_drewN ?_ _ | refine blk_drew ?_ | refine blk_alloc ?_ _)); refine blk_far ?_ NB251_254.out _; (with_reducible repeat (first | refine blk_drewN ?_ _ | refine blk_drew ?_ | refine blk_alloc ?_ _)); refine blk_far ?_ NB251_254.out _; (with_reducible repeat (first | refine blk_drewN ?_ _ | refine blk_drew ?_ | refine blk_alloc ?_ _)); exact BK251.out) hb); have n2_ := Aside0.mk (blk_below (g := gb252) (o := .cells #[.int .i64 0, .int .i64 0] 34 (0, 0)) (by (with_reducible repeat (first | refine blk_drewN ?_ _ | refine blk_drew ?_ | refine blk_alloc ?_ _)); refine blk_far ?_ NB252_255.out _; (with_reducible repeat (first | refine blk_drewN ?_ _ | refine blk_drew ?_ | refine blk_alloc ?_ _)); refine blk_far ?_ NB252_255.out _; (with_reducible repeat (first | refine blk_drewN ?_ _ | refine blk_drew ?_ | refine blk_alloc ?_ _)); refine blk_far ?_ NB252_254.out _; (with_reducible repeat (first | refine blk_drewN ?_ _ | refine blk_drew ?_ | refine blk_alloc ?_ _)); refine blk_far ?_ NB252_254.out _; (with_reducible repeat (first | refine blk_drewN ?_ _ | refine blk_drew ?_ | refine blk_alloc ?_ _)); exact BK252.out) hb); have n3_ := Aside0.mk (blk_below (g := gb254) (o := .cells #[.int .i64 0, .int .i64 0] 34 (0, 0)) (by (with_reducible repeat (first | refine blk_drewN ?_ _ | refine blk_drew ?_ | refine blk_alloc ?_ _)); refine blk_far ?_ NB254_255.out _; (with_reducible repeat (first | refine blk_drewN ?_ _ | refine blk_drew ?_ | refine blk_alloc ?_ _)); refine blk_far ?_ NB254_255.out _; (with_reducible repeat (first | refine blk_drewN ?_ _ | refine blk_drew ?_ | refine blk_alloc ?_ _)); refine blk_put (cs := #[.int .i64 0, .int .i64 0]) ?_ 1 _ rfl; (with_reducible repeat (first | refine blk_drewN ?_ _ | refine blk_drew ?_ | refine blk_alloc ?_ _)); refine blk_put (cs := #[.int .i64 0, .int .i64 0]) ?_ 0 _ rfl; (with_reducible repeat (first | refine blk_drewN ?_ _ | refine blk_drew ?_ | refine blk_alloc ?_ _)); exact BK254.out) hb); have n4_ := Aside0.mk (blk_below (g := gb255) (o := .cells #[.int .i64 0, .int .i64 0] 34 (0, 0)) (by (with_reducible repeat (first | refine blk_drewN ?_ _ | refine blk_drew ?_ | refine blk_alloc ?_ _)); refine blk_put (cs := #[.int .i64 0, .int .i64 0]) ?_ 1 _ rfl; (with_reducible repeat (first | refine blk_drewN ?_ _ | refine blk_drew ?_ | refine blk_alloc ?_ _)); refine blk_put (cs := #[.int .i64 0, .int .i64 0]) ?_ 0 _ rfl; (with_reducible repeat (first | refine blk_drewN ?_ _ | refine blk_drew ?_ | refine blk_alloc ?_ _)); refine blk_far ?_ NB255_254.out _; (with_reducible repeat (first | refine blk_drewN ?_ _ | refine blk_drew ?_ | refine blk_alloc ?_ _)); refine blk_far ?_ NB255_254.out _; (with_reducible repeat (first | refine blk_drewN ?_ _ | refine blk_drew ?_ | refine blk_alloc ?_ _)); exact BK255.out) hb); have n5_ := Aside0.mk (below_step (hbg_) hb); clear BK251; clear BK252; clear BK254; clear BK255; clear HB; have HO258 := n0_; have BK251 := n1_; have BK252 := n2_; have BK254 := n3_; have BK255 := n4_; have HB := n5_; clear n0_ n1_ n2_ n3_ n4_ n5_; (try clear hb); (try clear hb2); (try clear hk); (try clear hi); (try clear ho0); obtain ⟨Ao24, co24, eo24⟩ := Kd.R_slice HO258.out; subst eo24))
        go_loopg [8, 31] kj1 (fun kq v8 v31 w' => ∃ (x8_2 : Int) (x31_2 : Int) (x255000_2 : Int) (x255001_2 : Int) (x256000_2 : Int) (x256001_2 : Int), v8 = .int .i64 x8_2 ∧ v31 = .int .i64 x31_2 ∧ Aside0 (impl_FarthestApart.l0 kq x8_2 t256 t256 (t256.length : Int) x31_2 x255000_2 x255001_2 x256000_2 x256001_2 = some (r1, r2, r3, r4, r5, r6)) ∧ Aside0 (kq ≤ kj1) ∧ Aside0 (Kd.R k34 34 w' w.heap.size (fun k_ => k_ ≠ gb251 ∧ k_ ≠ gb252 ∧ k_ ≠ gb254 ∧ k_ ≠ gb255) (.slice Ao24 t256.length co24) t256) ∧ Aside0 (Kd.R k34 34 w' w.heap.size (fun k_ => k_ ≠ gb251 ∧ k_ ≠ gb252 ∧ k_ ≠ gb254 ∧ k_ ≠ gb255) (.slice Ao24 t256.length co24) t256) ∧ Aside0 (w'.heap[gb251]? = some (.cells #[.int .i64 0, .int .i64 0] 34 (0, 0))) ∧ Aside0 (w'.heap[gb252]? = some (.cells #[.int .i64 0, .int .i64 0] 34 (0, 0))) ∧ Aside0 (w'.heap[gb254]? = some (.cells #[.int .i64 x255000_2, .int .i64 x255001_2] 34 (0, 0))) ∧ Aside0 (w'.heap[gb255]? = some (.cells #[.int .i64 x256000_2, .int .i64 x256001_2] 34 (0, 0))) ∧ Aside0 (Below w.heap.size w w'))
        case atStart => exact ⟨(0), (0), (0), (0), (0), (0), (by first | rfl | (simp; done) | (simp [*]; done)), (by first | rfl | (simp; done) | (simp [*]; done)), H', ⟨Nat.le_refl _⟩, ⟨by (with_reducible repeat (first | apply Kd.R_alloc | apply Kd.R_drewN | apply Kd.R_drew)); exact Kd.R_mono HO258.out (fun _ hk => ⟨hk.1.1.1.2, ⟨hk.1.1.2, ⟨hk.1.2, hk.2⟩⟩⟩)⟩, ⟨by (with_reducible repeat (first | apply Kd.R_alloc | apply Kd.R_drewN | apply Kd.R_drew)); exact Kd.R_mono HO258.out (fun _ hk => ⟨hk.1.1.1.2, ⟨hk.1.1.2, ⟨hk.1.2, hk.2⟩⟩⟩)⟩, ⟨bk_ BK251.out⟩, ⟨bk_ BK252.out⟩, ⟨bk_ BK254.out⟩, ⟨bk_ BK255.out⟩, ⟨hbg_⟩⟩
        case round =>
          clear H'
          try clear c1
          try clear c2
          try clear p2
          try clear c5
          try clear c6
          try clear c9
          try clear c10
          try clear c16
          try clear c17
          try clear c18
          try clear c20
          try clear c21
          try clear hcz11_0
          try clear hcz11_1
          try clear hcz12_0
          try clear hcz12_1
          try clear hcz19_0
          try clear hcz19_1
          try clear hcz22_0
          try clear hcz22_1
          try clear hfz11_0
          try clear hfz11_1
          try clear hfz12_0
          try clear hfz12_1
          try clear hfz19_0
          try clear hfz19_1
          try clear hfz22_0
          try clear hfz22_1
          try clear p2
          obtain ⟨x8_2, x31_2, x255000_2, x255001_2, x256000_2, x256001_2, rfl, rfl, HA, HK2, HO_9, HO_29, BK251, BK252, BK254, BK255, HB⟩ := hrel
          cases gk with
          | zero => exact absurd HA.out (by simp [impl_FarthestApart.l0])
          | succ k2 =>
            have H := HA.out
            clear HA
            simp only [impl_FarthestApart.l0] at H
            by_cases c25 : x31_2 < (t256.length : Int)
            · rw [if_pos c25] at H
              have c25b0 : decide (x31_2 < (t256.length : Int)) = true := decide_eq_true c25
              clear c25
              by_cases c26 : 0 ≤ x31_2
              · rw [if_pos c26] at H
                have c26b0 : decide (0 ≤ x31_2) = true := decide_eq_true c26
                clear c26
                by_cases c27 : x31_2 < (t256.length : Int)
                · rw [if_pos c27] at H
                  have c27b0 : decide (x31_2 < (t256.length : Int)) = true := decide_eq_true c27
                  clear c27
                  obtain ⟨ji28, hji28⟩ : ∃ j_ : Int, (wrap64 (x31_2 + 1)) = j_ := ⟨_, rfl⟩
                  replace H : (if 0 ≤ (ji28) then (if (ji28) ≤ (t256.length : Int) then ((some (t256.drop ((ji28) : Int).toNat : List (S34))).bind fun y261 => (impl_FarthestApart.l1 k2 x8_2 t256 t256 (t256.length : Int) x31_2 y261 (y261.length : Int) 0 x255000_2 x255001_2 x256000_2 x256001_2 ((rd_T34 t256 x31_2).f0) ((rd_T34 t256 x31_2).f1))) else (none)) else (none)) = some (r1, r2, r3, r4, r5, r6) := by first | (rw [hji28] at H; exact H) | (simp only [hji28] at H ⊢; exact H)
                  have hji28w : (IntKind.i64.wrap (x31_2 + 1)) = ji28 := (i64_w _).trans hji28
                  by_cases c29 : 0 ≤ (ji28)
                  · rw [if_pos c29] at H
                    have c29b0 := eq_true c29
                    have c29b1 : decide (0 ≤ (ji28)) = true := decide_eq_true c29
                    clear c29
                    by_cases c30 : (ji28) ≤ (t256.length : Int)
                    · rw [if_pos c30] at H
                      have c30b0 := eq_true c30
                      have c30b1 : decide ((ji28) ≤ (t256.length : Int)) = true := decide_eq_true c30
                      clear c30
                      obtain ⟨y261, hy261⟩ : ∃ y_ : List (S34), y_ = (t256.drop ((ji28) : Int).toNat) := ⟨_, rfl⟩
                      replace H : (impl_FarthestApart.l1 k2 x8_2 t256 t256 (t256.length : Int) x31_2 y261 (y261.length : Int) 0 x255000_2 x255001_2 x256000_2 x256001_2 ((rd_T34 t256 x31_2).f0) ((rd_T34 t256 x31_2).f1)) = some (r1, r2, r3, r4, r5, r6) := by first | (rw [hy261]; with_reducible exact H) | (have H2_ := (Option.bind_some _ _).symm.trans H; rw [hy261]; with_reducible exact H2_) | (have H2_ := (Option.bind_some _ _).symm.trans H; with_reducible exact H2_) | with_reducible exact H | (rw [hy261]; exact H) | exact H
                      have Ny261 := Aside0.mk hy261
                      clear hy261
                      have H' := Aside0.mk H
                      clear H
                      have p259 : 0 ≤ (x31_2 : Int) := odt_
                      have q259 : x31_2 < (t256.length : Int) := odt_
                      obtain ⟨ad259, e259, hx259_0, hx259_1⟩ := at_T34 (Kd.R_reads' HO_29.out).2.2 x31_2 p259 q259
                      cases e259
                      replace p259 := eq_true p259
                      replace q259 := eq_true q259
                      go_wp2_with (first | ((with_reducible refine gate_dst (N := 11) rfl ?_); (try (refine gate_guard (by rfl) ?_; dsimp only)); refine box_event ?hg (N := 11) ?hd (cs := #[.int .i64 0, .int .i64 0]) (t := 34) ?hr ?_; (case hd => rfl); (case hg => rfl); (case hr => first | (go_simp; done) | (go_simp; rfl)); intro gb260 hg w31 hbox hb; have n0_ := Aside0.mk (Kd.R_below (Kd.R_elderB (rk_ HO_9.out) gb260 (Nat.le_of_eq hg.symm)) hb); have n1_ := Aside0.mk (Kd.R_below (Kd.R_elderB (rk_ HO_29.out) gb260 (Nat.le_of_eq hg.symm)) hb); have n2_ := bb_ BK251 hb; have n3_ := bb_ BK252 hb; have n4_ := bb_ BK254 hb; have n5_ := bb_ BK255 hb; have n6_ := Aside0.mk (below_step (hbg_) hb); have n7_ := Aside0.mk (hbox); have n8_ := Aside0.mk ((by rw [hg]; exact (below_size (hbg_)) : w.heap.size ≤ gb260)); have n9_ := Aside0.mk ((by rw [hg]; exact (below_size (hbg_)) : w.heap.size ≤ gb260)); have n10_ := Aside0.mk ((by rw [hg]; exact Nat.ne_of_lt (blk_lt (bk_ BK251.out)) : gb251 ≠ gb260)); have n11_ := Aside0.mk ((by rw [hg]; exact Nat.ne_of_gt (blk_lt (bk_ BK251.out)) : gb260 ≠ gb251)); have n12_ := Aside0.mk ((by rw [hg]; exact Nat.ne_of_lt (blk_lt (bk_ BK252.out)) : gb252 ≠ gb260)); have n13_ := Aside0.mk ((by rw [hg]; exact Nat.ne_of_gt (blk_lt (bk_ BK252.out)) : gb260 ≠ gb252)); have n14_ := Aside0.mk ((by rw [hg]; exact Nat.ne_of_lt (blk_lt (bk_ BK254.out)) : gb254 ≠ gb260)); have n15_ := Aside0.mk ((by rw [hg]; exact Nat.ne_of_gt (blk_lt (bk_ BK254.out)) : gb260 ≠ gb254)); have n16_ := Aside0.mk ((by rw [hg]; exact Nat.ne_of_lt (blk_lt (bk_ BK255.out)) : gb255 ≠ gb260)); have n17_ := Aside0.mk ((by rw [hg]; exact Nat.ne_of_gt (blk_lt (bk_ BK255.out)) : gb260 ≠ gb255)); clear HO_9; clear HO_29; clear BK251; clear BK252; clear BK254; clear BK255; clear HB; have HO_9 := n0_; have HO_29 := n1_; have BK251 := n2_; have BK252 := n3_; have BK254 := n4_; have BK255 := n5_; have HB := n6_; have BK260 := n7_; have GW260 := n8_; have GE260 := n9_; have NB251_260 := n10_; have NB260_251 := n11_; have NB252_260 := n12_; have NB260_252 := n13_; have NB254_260 := n14_; have NB260_254 := n15_; have NB255_260 := n16_; have NB260_255 := n17_; clear n0_ n1_ n2_ n3_ n4_ n5_ n6_ n7_ n8_ n9_ n10_ n11_ n12_ n13_ n14_ n15_ n16_ n17_; clear hb hbox hg; have hnb32 := NB260_251.out; have hnc32 := NB251_260.out; have hnb33 := NB260_252.out; have hnc33 := NB252_260.out; have hnb34 := NB260_254.out; have hnc34 := NB254_260.out; have hnb35 := NB260_255.out; have hnc35 := NB255_260.out; have hcz36_0 : w31.cell? ⟨gb260, 0, none⟩ = some (.int .i64 0) := (blk_cell BK260.out 0).trans rfl; have hcz36_1 : w31.cell? ⟨gb260, 1, none⟩ = some (.int .i64 0) := (blk_cell BK260.out 1).trans rfl; have hfz36_0 := blk_frozen BK260.out 0; have hfz36_1 := blk_frozen BK260.out 1) | ((with_reducible refine gate_store (t := 34) (p := 11) rfl ?_); refine store_event (t := 34) (p := 11) (v := ?vo_w37) (w1 := ((w31.setCell ⟨gb260, 0, none⟩ (.int .i64 ((rd_T34 t256 x31_2).f0))).setCell ⟨gb260, 1, none⟩ (.int .i64 ((rd_T34 t256 x31_2).f1)))) ?hg ?ho ?hn ?hr ?_; (case ho => rfl); (case hg => rfl); (case hn => rfl); (case hr => first | (go_simp; done) | (go_simp; rfl)); intro w37 hw; have n0_ : Aside0 (Kd.R k34 34 w37 w.heap.size (fun k_ => k_ ≠ gb251 ∧ k_ ≠ gb252 ∧ k_ ≠ gb254 ∧ k_ ≠ gb255 ∧ k_ ≠ gb260) (.slice (some ad259) t256.length co24) t256) := ⟨(by rw [hw]; exact (by (with_reducible repeat (first | apply Kd.R_alloc | apply Kd.R_drewN | apply Kd.R_drew)); exact Kd.R_mono (Kd.R_far (p := ⟨gb260, 1, none⟩) (Kd.R_far (p := ⟨gb260, 0, none⟩) (Kd.R_mono HO_9.out (fun k_ hk => (⟨hk, hk.2⟩ : _ ∧ k_ ≠ gb260))) (fun _ hk => hk.2) (.int .i64 ((rd_T34 t256 x31_2).f0))) (fun _ hk => hk.2) (.int .i64 ((rd_T34 t256 x31_2).f1))) (fun _ hk => ⟨hk.1.1.1, ⟨hk.1.1.2.1, ⟨hk.1.1.2.2.1, ⟨hk.1.1.2.2.2, hk.1.2⟩⟩⟩⟩)))⟩; have n1_ : Aside0 (Kd.R k34 34 w37 w.heap.size (fun k_ => k_ ≠ gb251 ∧ k_ ≠ gb252 ∧ k_ ≠ gb254 ∧ k_ ≠ gb255 ∧ k_ ≠ gb260) (.slice (some ad259) t256.length co24) t256) := ⟨(by rw [hw]; exact (by (with_reducible repeat (first | apply Kd.R_alloc | apply Kd.R_drewN | apply Kd.R_drew)); exact Kd.R_mono (Kd.R_far (p := ⟨gb260, 1, none⟩) (Kd.R_far (p := ⟨gb260, 0, none⟩) (Kd.R_mono HO_29.out (fun k_ hk => (⟨hk, hk.2⟩ : _ ∧ k_ ≠ gb260))) (fun _ hk => hk.2) (.int .i64 ((rd_T34 t256 x31_2).f0))) (fun _ hk => hk.2) (.int .i64 ((rd_T34 t256 x31_2).f1))) (fun _ hk => ⟨hk.1.1.1, ⟨hk.1.1.2.1, ⟨hk.1.1.2.2.1, ⟨hk.1.1.2.2.2, hk.1.2⟩⟩⟩⟩)))⟩; have n2_ : Aside0 (w37.heap[gb251]? = some (.cells #[.int .i64 0, .int .i64 0] 34 (0, 0))) := ⟨(by rw [hw]; exact (bf2_ BK251 NB251_260))⟩; have n3_ : Aside0 (w37.heap[gb252]? = some (.cells #[.int .i64 0, .int .i64 0] 34 (0, 0))) := ⟨(by rw [hw]; exact (bf2_ BK252 NB252_260))⟩; have n4_ : Aside0 (w37.heap[gb254]? = some (.cells #[.int .i64 x255000_2, .int .i64 x255001_2] 34 (0, 0))) := ⟨(by rw [hw]; exact (bf2_ BK254 NB254_260))⟩; have n5_ : Aside0 (w37.heap[gb255]? = some (.cells #[.int .i64 x256000_2, .int .i64 x256001_2] 34 (0, 0))) := ⟨(by rw [hw]; exact (bf2_ BK255 NB255_260))⟩; have n6_ : Aside0 (w37.heap[gb260]? = some (.cells #[.int .i64 ((rd_T34 t256 x31_2).f0), .int .i64 ((rd_T34 t256 x31_2).f1)] 34 (0, 0))) := ⟨(by rw [hw]; exact (by (with_reducible repeat (first | refine blk_drewN ?_ _ | refine blk_drew ?_ | refine blk_alloc ?_ _)); refine blk_put (cs := #[.int .i64 ((rd_T34 t256 x31_2).f0), .int .i64 0]) ?_ 1 _ rfl; (with_reducible repeat (first | refine blk_drewN ?_ _ | refine blk_drew ?_ | refine blk_alloc ?_ _)); refine blk_put (cs := #[.int .i64 0, .int .i64 0]) ?_ 0 _ rfl; (with_reducible repeat (first | refine blk_drewN ?_ _ | refine blk_drew ?_ | refine blk_alloc ?_ _)); exact BK260.out))⟩; have n7_ : Aside0 (Below w.heap.size w w37) := ⟨(by rw [hw]; exact (hbg_))⟩; clear hw; clear HO_9; clear HO_29; clear BK251; clear BK252; clear BK254; clear BK255; clear BK260; clear HB; have HO_9 := n0_; have HO_29 := n1_; have BK251 := n2_; have BK252 := n3_; have BK254 := n4_; have BK255 := n5_; have BK260 := n6_; have HB := n7_; clear n0_ n1_ n2_ n3_ n4_ n5_ n6_ n7_; have q38 : ((ji28) : Int) ≤ ((t256.length : Int) : Int) := odt_; obtain ⟨i038, hi038, _, hsz38, _⟩ := info_parts info34; have hroom38 : t256.length ≤ co24 := (Kd.R_reads' HO_9.out).2.1; have hC38 : Kd.C k34 _ (some ad259) t256.length t256 := (Kd.R_reads' HO_9.out).2.2; have q038 : (0 : Int) ≤ ((ji28) : Int) := odt_; have hcut38 := cut_from (P := Try.prog) 25 34 .i64 Try.underlying25 hi038 2 hsz38 (some ad259) t256.length co24 (ji28) q038 q38; have hr38 := Kd.C_drop (m := ((ji28) : Int).toNat) (c := co24) hC38 (by omega) hroom38; obtain ⟨A38, hA38⟩ : ∃ A1, A1 = (if co24 = ((ji28) : Int).toNat then (some ad259) else ((some ad259) : Option Addr).map (·.add (((ji28) : Int).toNat * 2))) := ⟨_, rfl⟩; obtain ⟨c38, hc38⟩ : ∃ c1, c1 = co24 - ((ji28) : Int).toNat := ⟨_, rfl⟩; have hy38 : y261.length = t256.length - ((ji28) : Int).toNat := (by rw [Ny261.out, List.length_drop] <;> omega); rw [show (t256).drop ((ji28) : Int).toNat = y261 from Ny261.out.symm] at hr38; replace hr38 : Kd.C k34 _ A38 y261.length y261 := (by rw [hA38]; exact hr38); rw [← hy38, ← hA38, ← hc38] at hcut38; have HR264 := Aside0.mk hr38; have HC264 := Aside0.mk (show y261.length ≤ c38 from by rw [hy38, hc38]; exact Nat.sub_le_sub_right hroom38 _); clear hr38 hC38 hroom38 hi038 hsz38 hc38; have KY38 := Aside0.mk hy38; have KA38 := Aside0.mk hA38; clear hy38 hA38; have KL38 := Aside0.mk (show ((ji28) : Int).toNat ≤ t256.length from by omega); replace q38 := eq_true q38))
                      go_loopg [8, 41] k2 (fun kq v8 v41 w' => ∃ (x8_3 : Int) (x41_3 : Int) (x255000_3 : Int) (x255001_3 : Int) (x256000_3 : Int) (x256001_3 : Int), v8 = .int .i64 x8_3 ∧ v41 = .int .i64 x41_3 ∧ Aside0 (impl_FarthestApart.l1 kq x8_3 t256 t256 (t256.length : Int) x31_2 y261 (y261.length : Int) x41_3 x255000_3 x255001_3 x256000_3 x256001_3 ((rd_T34 t256 x31_2).f0) ((rd_T34 t256 x31_2).f1) = some (r1, r2, r3, r4, r5, r6)) ∧ Aside0 (kq ≤ k2) ∧ Aside0 (Kd.R k34 34 w' w.heap.size (fun k_ => k_ ≠ gb251 ∧ k_ ≠ gb252 ∧ k_ ≠ gb254 ∧ k_ ≠ gb255 ∧ k_ ≠ gb260) (.slice (some ad259) t256.length co24) t256) ∧ Aside0 (Kd.R k34 34 w' w.heap.size (fun k_ => k_ ≠ gb251 ∧ k_ ≠ gb252 ∧ k_ ≠ gb254 ∧ k_ ≠ gb255 ∧ k_ ≠ gb260) (.slice (some ad259) t256.length co24) t256) ∧ Aside0 (w'.heap[gb251]? = some (.cells #[.int .i64 0, .int .i64 0] 34 (0, 0))) ∧ Aside0 (w'.heap[gb252]? = some (.cells #[.int .i64 0, .int .i64 0] 34 (0, 0))) ∧ Aside0 (w'.heap[gb254]? = some (.cells #[.int .i64 x255000_3, .int .i64 x255001_3] 34 (0, 0))) ∧ Aside0 (w'.heap[gb255]? = some (.cells #[.int .i64 x256000_3, .int .i64 x256001_3] 34 (0, 0))) ∧ Aside0 (w'.heap[gb260]? = some (.cells #[.int .i64 ((rd_T34 t256 x31_2).f0), .int .i64 ((rd_T34 t256 x31_2).f1)] 34 (0, 0))) ∧ Aside0 (Kd.C k34 w' A38 y261.length y261) ∧ Aside0 (Below w.heap.size w w'))
                      case atStart => exact ⟨(x8_2), (0), (x255000_2), (x255001_2), (x256000_2), (x256001_2), (by first | rfl | (simp; done) | (simp [*]; done)), (by first | rfl | (simp; done) | (simp [*]; done)), H', ⟨Nat.le_refl _⟩, ⟨rk_ HO_9.out⟩, ⟨rk_ HO_29.out⟩, ⟨bk_ BK251.out⟩, ⟨bk_ BK252.out⟩, ⟨bk_ BK254.out⟩, ⟨bk_ BK255.out⟩, ⟨bk_ BK260.out⟩, ⟨by repeat (first | (with_reducible exact HR264.out) | (with_reducible refine Kd.C_alloc ?_ _) | (with_reducible refine Kd.C_drewN ?_ _) | (with_reducible refine Kd.C_drew ?_) | exact HR264.out)⟩, ⟨hbg_⟩⟩
                      case round =>
                        clear H'
                        try clear c1
                        try clear c2
                        try clear p2
                        try clear q2
                        try clear hx2
                        try clear c3
                        try clear q3
                        try clear c5
                        try clear c6
                        try clear p6
                        try clear c9
                        try clear c10
                        try clear c16
                        try clear c17
                        try clear c18
                        try clear c20
                        try clear c21
                        try clear c25
                        try clear c25b0
                        try clear p25
                        try clear q25
                        try clear hx25
                        try clear c26
                        try clear c26b0
                        try clear c27
                        try clear c27b0
                        try clear c29
                        try clear c29b0
                        try clear c29b1
                        try clear c30
                        try clear c30b0
                        try clear c30b1
                        try clear c32
                        try clear c33
                        try clear c34
                        try clear c35
                        try clear c38
                        try clear q38
                        try clear hcz11_0
                        try clear hcz11_1
                        try clear hcz12_0
                        try clear hcz12_1
                        try clear hcz19_0
                        try clear hcz19_1
                        try clear hcz22_0
                        try clear hcz22_1
                        try clear hcz36_0
                        try clear hcz36_1
                        try clear hfz11_0
                        try clear hfz11_1
                        try clear hfz12_0
                        try clear hfz12_1
                        try clear hfz19_0
                        try clear hfz19_1
                        try clear hfz22_0
                        try clear hfz22_1
                        try clear hfz36_0
                        try clear hfz36_1
                        try clear hx259_0
                        try clear hx259_1
                        try clear p2
                        try clear p259
                        try clear q038
                        try clear q259
                        try clear q38
                        obtain ⟨x8_3, x41_3, x255000_3, x255001_3, x256000_3, x256001_3, rfl, rfl, HA, HK3, HO_9, HO_29, BK251, BK252, BK254, BK255, BK260, HR264, HB⟩ := hrel
                        cases gk with
                        | zero => exact absurd HA.out (by simp [impl_FarthestApart.l1])
                        | succ k3 =>
                          have H := HA.out
                          clear HA
                          simp only [impl_FarthestApart.l1] at H
                          by_cases c39 : x41_3 < (y261.length : Int)
                          · rw [if_pos c39] at H
                            have c39b0 : decide (x41_3 < (y261.length : Int)) = true := decide_eq_true c39
                            clear c39
                            by_cases c40 : 0 ≤ x41_3
                            · rw [if_pos c40] at H
                              have c40b0 : decide (0 ≤ x41_3) = true := decide_eq_true c40
                              clear c40
                              by_cases c41 : x41_3 < (y261.length : Int)
                              · rw [if_pos c41] at H
                                have c41b0 : decide (x41_3 < (y261.length : Int)) = true := decide_eq_true c41
                                clear c41
                                replace H := Option.bind_eq_some_iff.mp H
                                obtain ⟨⟨t267, t268⟩, A420, H⟩ := H
                                replace H : ((impl_Peg_square.f t267 t268).bind fun t269 => (if t269 > x8_3 then (impl_FarthestApart.l1 k3 t269 t256 t256 (t256.length : Int) x31_2 y261 (y261.length : Int) (wrap64 (x41_3 + 1)) ((rd_T34 t256 x31_2).f0) ((rd_T34 t256 x31_2).f1) ((rd_T34 y261 x41_3).f0) ((rd_T34 y261 x41_3).f1) ((rd_T34 t256 x31_2).f0) ((rd_T34 t256 x31_2).f1)) else (impl_FarthestApart.l1 k3 x8_3 t256 t256 (t256.length : Int) x31_2 y261 (y261.length : Int) (wrap64 (x41_3 + 1)) x255000_3 x255001_3 x256000_3 x256001_3 ((rd_T34 t256 x31_2).f0) ((rd_T34 t256 x31_2).f1)))) = some (r1, r2, r3, r4, r5, r6) := H
                                have A42 := Aside0.mk A420
                                clear A420
                                replace H := Option.bind_eq_some_iff.mp H
                                obtain ⟨t269, A430, H⟩ := H
                                replace H : (if t269 > x8_3 then (impl_FarthestApart.l1 k3 t269 t256 t256 (t256.length : Int) x31_2 y261 (y261.length : Int) (wrap64 (x41_3 + 1)) ((rd_T34 t256 x31_2).f0) ((rd_T34 t256 x31_2).f1) ((rd_T34 y261 x41_3).f0) ((rd_T34 y261 x41_3).f1) ((rd_T34 t256 x31_2).f0) ((rd_T34 t256 x31_2).f1)) else (impl_FarthestApart.l1 k3 x8_3 t256 t256 (t256.length : Int) x31_2 y261 (y261.length : Int) (wrap64 (x41_3 + 1)) x255000_3 x255001_3 x256000_3 x256001_3 ((rd_T34 t256 x31_2).f0) ((rd_T34 t256 x31_2).f1))) = some (r1, r2, r3, r4, r5, r6) := H
                                have A43 := Aside0.mk A430
                                clear A430
                                by_cases c44 : t269 > x8_3
                                · rw [if_pos c44] at H
                                  have c44b0 : decide (x8_3 < t269) = true := decide_eq_true c44
                                  clear c44
                                  have H' := Aside0.mk H
                                  clear H
                                  have p265 : 0 ≤ (x41_3 : Int) := odt_
                                  have q265 : x41_3 < (y261.length : Int) := odt_
                                  obtain ⟨ad265, e265, hx265_0, hx265_1⟩ := at_T34 (by repeat (first | (with_reducible exact HR264.out) | (with_reducible refine Kd.C_alloc ?_ _) | (with_reducible refine Kd.C_drewN ?_ _) | (with_reducible refine Kd.C_drew ?_) | exact HR264.out)) x41_3 p265 q265
                                  cases e265
                                  replace p265 := eq_true p265
                                  replace q265 := eq_true q265
                                  try go_wp2_with (first | ((with_reducible refine gate_dst (N := 13) rfl ?_); (try (refine gate_guard (by rfl) ?_; dsimp only)); refine box_event ?hg (N := 13) ?hd (cs := #[.int .i64 0, .int .i64 0]) (t := 34) ?hr ?_; (case hd => rfl); (case hg => rfl); (case hr => first | (go_simp; done) | (go_simp; rfl)); intro gb266 hg w45 hbox hb; have n0_ := Aside0.mk (Kd.R_below (Kd.R_elderB (rk_ HO_9.out) gb266 (Nat.le_of_eq hg.symm)) hb); have n1_ := Aside0.mk (Kd.R_below (Kd.R_elderB (rk_ HO_29.out) gb266 (Nat.le_of_eq hg.symm)) hb); have n2_ := bb_ BK251 hb; have n3_ := bb_ BK252 hb; have n4_ := bb_ BK254 hb; have n5_ := bb_ BK255 hb; have n6_ := bb_ BK260 hb; have n7_ := Aside0.mk (Kd.C_below (by repeat (first | (with_reducible exact HR264.out) | (with_reducible refine Kd.C_alloc ?_ _) | (with_reducible refine Kd.C_drewN ?_ _) | (with_reducible refine Kd.C_drew ?_) | exact HR264.out)) hb); have n8_ := Aside0.mk (below_step (hbg_) hb); have n9_ := Aside0.mk (hbox); have n10_ := Aside0.mk ((by rw [hg]; exact (below_size (hbg_)) : w.heap.size ≤ gb266)); have n11_ := Aside0.mk ((by rw [hg]; exact (below_size (hbg_)) : w.heap.size ≤ gb266)); have n12_ := Aside0.mk ((by rw [hg]; exact Nat.ne_of_lt (blk_lt (bk_ BK251.out)) : gb251 ≠ gb266)); have n13_ := Aside0.mk ((by rw [hg]; exact Nat.ne_of_gt (blk_lt (bk_ BK251.out)) : gb266 ≠ gb251)); have n14_ := Aside0.mk ((by rw [hg]; exact Nat.ne_of_lt (blk_lt (bk_ BK252.out)) : gb252 ≠ gb266)); have n15_ := Aside0.mk ((by rw [hg]; exact Nat.ne_of_gt (blk_lt (bk_ BK252.out)) : gb266 ≠ gb252)); have n16_ := Aside0.mk ((by rw [hg]; exact Nat.ne_of_lt (blk_lt (bk_ BK254.out)) : gb254 ≠ gb266)); have n17_ := Aside0.mk ((by rw [hg]; exact Nat.ne_of_gt (blk_lt (bk_ BK254.out)) : gb266 ≠ gb254)); have n18_ := Aside0.mk ((by rw [hg]; exact Nat.ne_of_lt (blk_lt (bk_ BK255.out)) : gb255 ≠ gb266)); have n19_ := Aside0.mk ((by rw [hg]; exact Nat.ne_of_gt (blk_lt (bk_ BK255.out)) : gb266 ≠ gb255)); have n20_ := Aside0.mk ((by rw [hg]; exact Nat.ne_of_lt (blk_lt (bk_ BK260.out)) : gb260 ≠ gb266)); have n21_ := Aside0.mk ((by rw [hg]; exact Nat.ne_of_gt (blk_lt (bk_ BK260.out)) : gb266 ≠ gb260)); clear HO_9; clear HO_29; clear BK251; clear BK252; clear BK254; clear BK255; clear BK260; clear HR264; clear HB; have HO_9 := n0_; have HO_29 := n1_; have BK251 := n2_; have BK252 := n3_; have BK254 := n4_; have BK255 := n5_; have BK260 := n6_; have HR264 := n7_; have HB := n8_; have BK266 := n9_; have GW266 := n10_; have GE266 := n11_; have NB251_266 := n12_; have NB266_251 := n13_; have NB252_266 := n14_; have NB266_252 := n15_; have NB254_266 := n16_; have NB266_254 := n17_; have NB255_266 := n18_; have NB266_255 := n19_; have NB260_266 := n20_; have NB266_260 := n21_; clear n0_ n1_ n2_ n3_ n4_ n5_ n6_ n7_ n8_ n9_ n10_ n11_ n12_ n13_ n14_ n15_ n16_ n17_ n18_ n19_ n20_ n21_; clear hb hbox hg; have hnb46 := NB266_251.out; have hnc46 := NB251_266.out; have hnb47 := NB266_252.out; have hnc47 := NB252_266.out; have hnb48 := NB266_254.out; have hnc48 := NB254_266.out; have hnb49 := NB266_255.out; have hnc49 := NB255_266.out; have hnb50 := NB266_260.out; have hnc50 := NB260_266.out; have hcz51_0 : w45.cell? ⟨gb266, 0, none⟩ = some (.int .i64 0) := (blk_cell BK266.out 0).trans rfl; have hcz51_1 : w45.cell? ⟨gb266, 1, none⟩ = some (.int .i64 0) := (blk_cell BK266.out 1).trans rfl; have hfz51_0 := blk_frozen BK266.out 0; have hfz51_1 := blk_frozen BK266.out 1) | ((with_reducible refine gate_store (t := 34) (p := 13) rfl ?_); refine store_event (t := 34) (p := 13) (v := ?vo_w52) (w1 := ((w45.setCell ⟨gb266, 0, none⟩ (.int .i64 ((rd_T34 y261 x41_3).f0))).setCell ⟨gb266, 1, none⟩ (.int .i64 ((rd_T34 y261 x41_3).f1)))) ?hg ?ho ?hn ?hr ?_; (case ho => rfl); (case hg => rfl); (case hn => rfl); (case hr => first | (go_simp; done) | (go_simp; rfl)); intro w52 hw; have n0_ : Aside0 (Kd.R k34 34 w52 w.heap.size (fun k_ => k_ ≠ gb251 ∧ k_ ≠ gb252 ∧ k_ ≠ gb254 ∧ k_ ≠ gb255 ∧ k_ ≠ gb260 ∧ k_ ≠ gb266) (.slice (some ad259) t256.length co24) t256) := ⟨(by rw [hw]; exact (by (with_reducible repeat (first | apply Kd.R_alloc | apply Kd.R_drewN | apply Kd.R_drew)); exact Kd.R_mono (Kd.R_far (p := ⟨gb266, 1, none⟩) (Kd.R_far (p := ⟨gb266, 0, none⟩) (Kd.R_mono HO_9.out (fun k_ hk => (⟨hk, hk.2⟩ : _ ∧ k_ ≠ gb266))) (fun _ hk => hk.2) (.int .i64 ((rd_T34 y261 x41_3).f0))) (fun _ hk => hk.2) (.int .i64 ((rd_T34 y261 x41_3).f1))) (fun _ hk => ⟨hk.1.1.1, ⟨hk.1.1.2.1, ⟨hk.1.1.2.2.1, ⟨hk.1.1.2.2.2.1, ⟨hk.1.1.2.2.2.2, hk.1.2⟩⟩⟩⟩⟩)))⟩; have n1_ : Aside0 (Kd.R k34 34 w52 w.heap.size (fun k_ => k_ ≠ gb251 ∧ k_ ≠ gb252 ∧ k_ ≠ gb254 ∧ k_ ≠ gb255 ∧ k_ ≠ gb260 ∧ k_ ≠ gb266) (.slice (some ad259) t256.length co24) t256) := ⟨(by rw [hw]; exact (by (with_reducible repeat (first | apply Kd.R_alloc | apply Kd.R_drewN | apply Kd.R_drew)); exact Kd.R_mono (Kd.R_far (p := ⟨gb266, 1, none⟩) (Kd.R_far (p := ⟨gb266, 0, none⟩) (Kd.R_mono HO_29.out (fun k_ hk => (⟨hk, hk.2⟩ : _ ∧ k_ ≠ gb266))) (fun _ hk => hk.2) (.int .i64 ((rd_T34 y261 x41_3).f0))) (fun _ hk => hk.2) (.int .i64 ((rd_T34 y261 x41_3).f1))) (fun _ hk => ⟨hk.1.1.1, ⟨hk.1.1.2.1, ⟨hk.1.1.2.2.1, ⟨hk.1.1.2.2.2.1, ⟨hk.1.1.2.2.2.2, hk.1.2⟩⟩⟩⟩⟩)))⟩; have n2_ : Aside0 (Kd.C k34 w52 (some ad265) y261.length y261) := ⟨(by rw [hw]; exact ((by rw [KA38.out]; exact (show ∀ W_ : World, Kd.C k34 W_ _ (t256.drop ((ji28) : Int).toNat).length (t256.drop ((ji28) : Int).toNat) → Kd.C k34 W_ _ y261.length y261 from fun W_ h_ => by rw [Ny261.out]; exact h_) _ (Kd.C_drop (m := ((ji28) : Int).toNat) (c := co24) ((Kd.R_reads' (show Kd.R k34 34 ((w45.setCell ⟨gb266, 0, none⟩ (.int .i64 ((rd_T34 y261 x41_3).f0))).setCell ⟨gb266, 1, none⟩ (.int .i64 ((rd_T34 y261 x41_3).f1))) w.heap.size (fun k_ => k_ ≠ gb251 ∧ k_ ≠ gb252 ∧ k_ ≠ gb254 ∧ k_ ≠ gb255 ∧ k_ ≠ gb260 ∧ k_ ≠ gb266) (.slice (some ad259) t256.length co24) t256 from by (with_reducible repeat (first | apply Kd.R_alloc | apply Kd.R_drewN | apply Kd.R_drew)); exact Kd.R_mono (Kd.R_far (p := ⟨gb266, 1, none⟩) (Kd.R_far (p := ⟨gb266, 0, none⟩) (Kd.R_mono HO_9.out (fun k_ hk => (⟨hk, hk.2⟩ : _ ∧ k_ ≠ gb266))) (fun _ hk => hk.2) (.int .i64 ((rd_T34 y261 x41_3).f0))) (fun _ hk => hk.2) (.int .i64 ((rd_T34 y261 x41_3).f1))) (fun _ hk => ⟨hk.1.1.1, ⟨hk.1.1.2.1, ⟨hk.1.1.2.2.1, ⟨hk.1.1.2.2.2.1, ⟨hk.1.1.2.2.2.2, hk.1.2⟩⟩⟩⟩⟩))).2.2) KL38.out ((Kd.R_reads' (show Kd.R k34 34 ((w45.setCell ⟨gb266, 0, none⟩ (.int .i64 ((rd_T34 y261 x41_3).f0))).setCell ⟨gb266, 1, none⟩ (.int .i64 ((rd_T34 y261 x41_3).f1))) w.heap.size (fun k_ => k_ ≠ gb251 ∧ k_ ≠ gb252 ∧ k_ ≠ gb254 ∧ k_ ≠ gb255 ∧ k_ ≠ gb260 ∧ k_ ≠ gb266) (.slice (some ad259) t256.length co24) t256 from by (with_reducible repeat (first | apply Kd.R_alloc | apply Kd.R_drewN | apply Kd.R_drew)); exact Kd.R_mono (Kd.R_far (p := ⟨gb266, 1, none⟩) (Kd.R_far (p := ⟨gb266, 0, none⟩) (Kd.R_mono HO_9.out (fun k_ hk => (⟨hk, hk.2⟩ : _ ∧ k_ ≠ gb266))) (fun _ hk => hk.2) (.int .i64 ((rd_T34 y261 x41_3).f0))) (fun _ hk => hk.2) (.int .i64 ((rd_T34 y261 x41_3).f1))) (fun _ hk => ⟨hk.1.1.1, ⟨hk.1.1.2.1, ⟨hk.1.1.2.2.1, ⟨hk.1.1.2.2.2.1, ⟨hk.1.1.2.2.2.2, hk.1.2⟩⟩⟩⟩⟩))).2.1)))))⟩; have n3_ : Aside0 (w52.heap[gb251]? = some (.cells #[.int .i64 0, .int .i64 0] 34 (0, 0))) := ⟨(by rw [hw]; exact (bf2_ BK251 NB251_266))⟩; have n4_ : Aside0 (w52.heap[gb252]? = some (.cells #[.int .i64 0, .int .i64 0] 34 (0, 0))) := ⟨(by rw [hw]; exact (bf2_ BK252 NB252_266))⟩; have n5_ : Aside0 (w52.heap[gb254]? = some (.cells #[.int .i64 x255000_3, .int .i64 x255001_3] 34 (0, 0))) := ⟨(by rw [hw]; exact (bf2_ BK254 NB254_266))⟩; have n6_ : Aside0 (w52.heap[gb255]? = some (.cells #[.int .i64 x256000_3, .int .i64 x256001_3] 34 (0, 0))) := ⟨(by rw [hw]; exact (bf2_ BK255 NB255_266))⟩; have n7_ : Aside0 (w52.heap[gb260]? = some (.cells #[.int .i64 ((rd_T34 t256 x31_2).f0), .int .i64 ((rd_T34 t256 x31_2).f1)] 34 (0, 0))) := ⟨(by rw [hw]; exact (bf2_ BK260 NB260_266))⟩; have n8_ : Aside0 (w52.heap[gb266]? = some (.cells #[.int .i64 ((rd_T34 y261 x41_3).f0), .int .i64 ((rd_T34 y261 x41_3).f1)] 34 (0, 0))) := ⟨(by rw [hw]; exact (by (with_reducible repeat (first | refine blk_drewN ?_ _ | refine blk_drew ?_ | refine blk_alloc ?_ _)); refine blk_put (cs := #[.int .i64 ((rd_T34 y261 x41_3).f0), .int .i64 0]) ?_ 1 _ rfl; (with_reducible repeat (first | refine blk_drewN ?_ _ | refine blk_drew ?_ | refine blk_alloc ?_ _)); refine blk_put (cs := #[.int .i64 0, .int .i64 0]) ?_ 0 _ rfl; (with_reducible repeat (first | refine blk_drewN ?_ _ | refine blk_drew ?_ | refine blk_alloc ?_ _)); exact BK266.out))⟩; have n9_ : Aside0 (Below w.heap.size w w52) := ⟨(by rw [hw]; exact (hbg_))⟩; clear hw; clear HO_9; clear HO_29; clear HR264; clear BK251; clear BK252; clear BK254; clear BK255; clear BK260; clear BK266; clear HB; have HO_9 := n0_; have HO_29 := n1_; have HR264 := n2_; have BK251 := n3_; have BK252 := n4_; have BK254 := n5_; have BK255 := n6_; have BK260 := n7_; have BK266 := n8_; have HB := n9_; clear n0_ n1_ n2_ n3_ n4_ n5_ n6_ n7_ n8_ n9_; have hnb53 := NB260_251.out; have hnc53 := NB251_260.out; have hnb54 := NB260_252.out; have hnc54 := NB252_260.out; have hnb55 := NB260_254.out; have hnc55 := NB254_260.out; have hnb56 := NB260_255.out; have hnc56 := NB255_260.out; have hcz57_0 : w52.cell? ⟨gb260, 0, none⟩ = some (.int .i64 ((rd_T34 t256 x31_2).f0)) := (blk_cell BK260.out 0).trans rfl; have hcz57_1 : w52.cell? ⟨gb260, 1, none⟩ = some (.int .i64 ((rd_T34 t256 x31_2).f1)) := (blk_cell BK260.out 1).trans rfl; have hfz57_0 := blk_frozen BK260.out 0; have hfz57_1 := blk_frozen BK260.out 1; have hcz58_0 : w52.cell? ⟨gb266, 0, none⟩ = some (.int .i64 ((rd_T34 y261 x41_3).f0)) := (blk_cell BK266.out 0).trans rfl; have hcz58_1 : w52.cell? ⟨gb266, 1, none⟩ = some (.int .i64 ((rd_T34 y261 x41_3).f1)) := (blk_cell BK266.out 1).trans rfl; have hfz58_0 := blk_frozen BK266.out 0; have hfz58_1 := blk_frozen BK266.out 1) | ((with_reducible refine gate_callee (f := 61) rfl ?_); refine goesL_ (some 47) rfl rfl Try.func61 (by kernel_rfl) rfl #[.agg #[.int .i64 ((rd_T34 t256 x31_2).f0), .int .i64 ((rd_T34 t256 x31_2).f1)], .agg #[.int .i64 ((rd_T34 y261 x41_3).f0), .int .i64 ((rd_T34 y261 x41_3).f1)]] rfl ga_ ?_; (with_reducible refine (impl_Peg_less.calls ((rd_T34 t256 x31_2).f0) ((rd_T34 t256 x31_2).f1) ((rd_T34 y261 x41_3).f0) ((rd_T34 y261 x41_3).f1) t267 t268 _ A42.out).mono ?_); rintro e w59 ⟨rfl, hb⟩; refine ⟨_, rfl, ?_⟩; have n0_ := Aside0.mk (Kd.R_below (rk_ HO_9.out) hb); have n1_ := Aside0.mk (Kd.R_below (rk_ HO_29.out) hb); have n2_ := bb_ BK251 hb; have n3_ := bb_ BK252 hb; have n4_ := bb_ BK254 hb; have n5_ := bb_ BK255 hb; have n6_ := bb_ BK260 hb; have n7_ := Aside0.mk (Kd.C_below (by repeat (first | (with_reducible exact HR264.out) | (with_reducible refine Kd.C_alloc ?_ _) | (with_reducible refine Kd.C_drewN ?_ _) | (with_reducible refine Kd.C_drew ?_) | exact HR264.out)) hb); have n8_ := bb_ BK266 hb; have n9_ := Aside0.mk (below_step (hbg_) hb); clear HO_9; clear HO_29; clear BK251; clear BK252; clear BK254; clear BK255; clear BK260; clear HR264; clear BK266; clear HB; have HO_9 := n0_; have HO_29 := n1_; have BK251 := n2_; have BK252 := n3_; have BK254 := n4_; have BK255 := n5_; have BK260 := n6_; have HR264 := n7_; have BK266 := n8_; have HB := n9_; clear n0_ n1_ n2_ n3_ n4_ n5_ n6_ n7_ n8_ n9_; (try clear hb); (try clear hb2); (try clear hk); (try clear hi)) | ((with_reducible refine gate_callee (f := 62) rfl ?_); refine goesL_ (some 48) rfl rfl Try.func62 (by kernel_rfl) rfl #[.agg #[.int .i64 t267, .int .i64 t268]] rfl ga_ ?_; (with_reducible refine (impl_Peg_square.calls t267 t268 t269 _ A43.out).mono ?_); rintro e w60 ⟨rfl, hb⟩; refine ⟨_, rfl, ?_⟩; have n0_ := Aside0.mk (Kd.R_below (rk_ HO_9.out) hb); have n1_ := Aside0.mk (Kd.R_below (rk_ HO_29.out) hb); have n2_ := bb_ BK251 hb; have n3_ := bb_ BK252 hb; have n4_ := bb_ BK254 hb; have n5_ := bb_ BK255 hb; have n6_ := bb_ BK260 hb; have n7_ := Aside0.mk (Kd.C_below (by repeat (first | (with_reducible exact HR264.out) | (with_reducible refine Kd.C_alloc ?_ _) | (with_reducible refine Kd.C_drewN ?_ _) | (with_reducible refine Kd.C_drew ?_) | exact HR264.out)) hb); have n8_ := bb_ BK266 hb; have n9_ := Aside0.mk (below_step (hbg_) hb); clear HO_9; clear HO_29; clear BK251; clear BK252; clear BK254; clear BK255; clear BK260; clear HR264; clear BK266; clear HB; have HO_9 := n0_; have HO_29 := n1_; have BK251 := n2_; have BK252 := n3_; have BK254 := n4_; have BK255 := n5_; have BK260 := n6_; have HR264 := n7_; have BK266 := n8_; have HB := n9_; clear n0_ n1_ n2_ n3_ n4_ n5_ n6_ n7_ n8_ n9_; (try clear hb); (try clear hb2); (try clear hk); (try clear hi)))
                                  have n0_ := Aside0.mk (Kd.R_drew HO_9.out)
                                  have n1_ := Aside0.mk (Kd.R_drew HO_29.out)
                                  have n2_ := Aside0.mk (blk_drew BK251.out)
                                  have n3_ := Aside0.mk (blk_drew BK252.out)
                                  have n4_ := Aside0.mk (blk_drew BK254.out)
                                  have n5_ := Aside0.mk (blk_drew BK255.out)
                                  have n6_ := Aside0.mk (blk_drew BK260.out)
                                  have n7_ := Aside0.mk (blk_drew BK266.out)
                                  have n8_ := Aside0.mk (Kd.C_drew HR264.out)
                                  have n9_ := Aside0.mk (below_drew1 HB.out)
                                  clear HO_9
                                  clear HO_29
                                  clear BK251
                                  clear BK252
                                  clear BK254
                                  clear BK255
                                  clear BK260
                                  clear BK266
                                  clear HR264
                                  clear HB
                                  have HO_9 := n0_
                                  have HO_29 := n1_
                                  have BK251 := n2_
                                  have BK252 := n3_
                                  have BK254 := n4_
                                  have BK255 := n5_
                                  have BK260 := n6_
                                  have BK266 := n7_
                                  have HR264 := n8_
                                  have HB := n9_
                                  clear n0_ n1_ n2_ n3_ n4_ n5_ n6_ n7_ n8_ n9_
                                  refine start_ (n := 6) (S := fun w' => w'.cell? ⟨gb260, 0, none⟩ = some (.int .i64 ((rd_T34 t256 x31_2).f0)) ∧ w'.cell? ⟨gb260, 1, none⟩ = some (.int .i64 ((rd_T34 t256 x31_2).f1)) ∧ w'.cell? ⟨gb266, 0, none⟩ = some (.int .i64 ((rd_T34 y261 x41_3).f0)) ∧ w'.cell? ⟨gb266, 1, none⟩ = some (.int .i64 ((rd_T34 y261 x41_3).f1))) (ds := []) #[false, false, false, false, false, false] (by kernel_rfl) rfl rfl ⟨(blk_cell BK260.out 0).trans rfl, (blk_cell BK260.out 1).trans rfl, (blk_cell BK266.out 0).trans rfl, (blk_cell BK266.out 1).trans rfl⟩ (fun hHeld => ?_)
                                  generalize w60.drew = w61 at HO_9 HO_29 BK251 BK252 BK254 BK255 BK260 BK266 HR264 HB hHeld ⊢
                                  refine pure_ (i := 2) (N := some 54) (v := ?_) (a' := ?_) #[false, false, true, false, false, false] rfl rfl (by kernel_rfl) (fun _ _ _ h => h) (Or.inl ⟨by rfl, ?_⟩) ?_ ?_
                                  rotate_left
                                  · intro w'
                                    go_simp
                                    with_reducible rfl
                                  rotate_left
                                  · simp only [Act.put, sA, sB, sC, i64_w, i32_w]
                                    rfl
                                  refine take_ (i := 0) (N := some 52) (v := ?_) (a' := ?_) #[true, false, true, false, false, false] rfl rfl (by kernel_rfl) (fun _ _ _ h => h) (Or.inl ⟨by rfl, ?_⟩) hHeld ?_ ?_
                                  rotate_left
                                  · rintro w' ⟨s0, s1, s2, s3⟩
                                    go_simp
                                    with_reducible rfl
                                  rotate_left
                                  · simp only [Act.put, sA, sB, sC, i64_w, i32_w]
                                    rfl
                                  refine take_ (i := 1) (N := some 53) (v := ?_) (a' := ?_) #[true, true, true, false, false, false] rfl rfl (by kernel_rfl) (fun _ _ _ h => h) (Or.inl ⟨by rfl, ?_⟩) hHeld ?_ ?_
                                  rotate_left
                                  · rintro w' ⟨s0, s1, s2, s3⟩
                                    go_simp
                                    with_reducible rfl
                                  rotate_left
                                  · simp only [Act.put, sA, sB, sC, i64_w, i32_w]
                                    rfl
                                  refine one_ (i := 3) (N := none) #[true, true, true, true, false, false] rfl rfl (by kernel_rfl) (by decide) (fun K hK => ?_)
                                  have hs62 : w61.cell? ⟨gb254, 0, none⟩ = some (.int .i64 x255000_3) := (blk_cell BK254.out 0).trans rfl
                                  have hfs62 := blk_frozen BK254.out 0
                                  have hns62_0 := NB251_254.out
                                  have hns62_1 := NB252_254.out
                                  have hns62_3 := NB255_254.out
                                  have hns62_4 := NB260_254.out
                                  have hns62_5 := NB266_254.out
                                  have hms62_0 := NB254_251.out
                                  have hms62_1 := NB254_252.out
                                  have hms62_3 := NB254_255.out
                                  have hms62_4 := NB254_260.out
                                  have hms62_5 := NB254_266.out
                                  have hs63 : w61.cell? ⟨gb254, 1, none⟩ = some (.int .i64 x255001_3) := (blk_cell BK254.out 1).trans rfl
                                  have hfs63 := blk_frozen BK254.out 1
                                  have hns63_0 := NB251_254.out
                                  have hns63_1 := NB252_254.out
                                  have hns63_3 := NB255_254.out
                                  have hns63_4 := NB260_254.out
                                  have hns63_5 := NB266_254.out
                                  have hms63_0 := NB254_251.out
                                  have hms63_1 := NB254_252.out
                                  have hms63_3 := NB254_255.out
                                  have hms63_4 := NB254_260.out
                                  have hms63_5 := NB254_266.out
                                  refine skip_ (w1 := ?_) (by rfl) rfl ?_ ?_
                                  rotate_left
                                  · go_simp
                                    rfl
                                  refine hK.out _ _ ⟨((cell_far (p := ⟨gb254, _, none⟩) NB260_254.out _).trans (((cell_far (p := ⟨gb254, _, none⟩) NB260_254.out _).trans (hHeld.1)))), ((cell_far (p := ⟨gb254, _, none⟩) NB260_254.out _).trans (((cell_far (p := ⟨gb254, _, none⟩) NB260_254.out _).trans (hHeld.2.1)))), ((cell_far (p := ⟨gb254, _, none⟩) NB266_254.out _).trans (((cell_far (p := ⟨gb254, _, none⟩) NB266_254.out _).trans (hHeld.2.2.1)))), ((cell_far (p := ⟨gb254, _, none⟩) NB266_254.out _).trans (((cell_far (p := ⟨gb254, _, none⟩) NB266_254.out _).trans (hHeld.2.2.2))))⟩ (fun hHeld => ?_)
                                  clear hK K
                                  refine one_ (i := 4) (N := none) #[true, true, true, true, true, false] rfl rfl (by kernel_rfl) (by decide) (fun K hK => ?_)
                                  have hs64 : w61.cell? ⟨gb255, 0, none⟩ = some (.int .i64 x256000_3) := (blk_cell BK255.out 0).trans rfl
                                  have hfs64 := blk_frozen BK255.out 0
                                  have hns64_0 := NB251_255.out
                                  have hns64_1 := NB252_255.out
                                  have hns64_2 := NB254_255.out
                                  have hns64_4 := NB260_255.out
                                  have hns64_5 := NB266_255.out
                                  have hms64_0 := NB255_251.out
                                  have hms64_1 := NB255_252.out
                                  have hms64_2 := NB255_254.out
                                  have hms64_4 := NB255_260.out
                                  have hms64_5 := NB255_266.out
                                  have hs65 : w61.cell? ⟨gb255, 1, none⟩ = some (.int .i64 x256001_3) := (blk_cell BK255.out 1).trans rfl
                                  have hfs65 := blk_frozen BK255.out 1
                                  have hns65_0 := NB251_255.out
                                  have hns65_1 := NB252_255.out
                                  have hns65_2 := NB254_255.out
                                  have hns65_4 := NB260_255.out
                                  have hns65_5 := NB266_255.out
                                  have hms65_0 := NB255_251.out
                                  have hms65_1 := NB255_252.out
                                  have hms65_2 := NB255_254.out
                                  have hms65_4 := NB255_260.out
                                  have hms65_5 := NB255_266.out
                                  refine skip_ (w1 := ?_) (by rfl) rfl ?_ ?_
                                  rotate_left
                                  · go_simp
                                    rfl
                                  refine hK.out _ _ ⟨((cell_far (p := ⟨gb255, _, none⟩) NB260_255.out _).trans (((cell_far (p := ⟨gb255, _, none⟩) NB260_255.out _).trans (hHeld.1)))), ((cell_far (p := ⟨gb255, _, none⟩) NB260_255.out _).trans (((cell_far (p := ⟨gb255, _, none⟩) NB260_255.out _).trans (hHeld.2.1)))), ((cell_far (p := ⟨gb255, _, none⟩) NB266_255.out _).trans (((cell_far (p := ⟨gb255, _, none⟩) NB266_255.out _).trans (hHeld.2.2.1)))), ((cell_far (p := ⟨gb255, _, none⟩) NB266_255.out _).trans (((cell_far (p := ⟨gb255, _, none⟩) NB266_255.out _).trans (hHeld.2.2.2))))⟩ (fun hHeld => ?_)
                                  clear hK K
                                  refine pure_ (i := 5) (N := some 8) (v := ?_) (a' := ?_) #[true, true, true, true, true, true] rfl rfl (by kernel_rfl) (fun _ _ _ h => h) (Or.inl ⟨by rfl, ?_⟩) ?_ ?_
                                  rotate_left
                                  · intro w'
                                    go_simp
                                    with_reducible rfl
                                  rotate_left
                                  · simp only [Act.put, sA, sB, sC, i64_w, i32_w]
                                    rfl
                                  refine done_ (by kernel_rfl) ?_
                                  try go_wp2
                                  go_roundg k3
                                  case measure => have := HJ1.out; have := HK2.out; have := HK3.out; omega
                                  case rel => exact ⟨(t269), (wrap64 (x41_3 + 1)), (((rd_T34 t256 x31_2).f0)), (((rd_T34 t256 x31_2).f1)), ((rd_T34 y261 x41_3).f0), ((rd_T34 y261 x41_3).f1), (by first | rfl | (simp; done) | (simp [*]; done)), (by first | rfl | (simp; done) | (simp [*]; done)), H', ⟨by have := HJ1.out; have := HK2.out; have := HK3.out; omega⟩, ⟨by (with_reducible repeat (first | apply Kd.R_alloc | apply Kd.R_drewN | apply Kd.R_drew)); exact Kd.R_mono (Kd.R_far (p := ⟨gb255, 1, none⟩) (Kd.R_far (p := ⟨gb255, 0, none⟩) (Kd.R_far (p := ⟨gb254, 1, none⟩) (Kd.R_far (p := ⟨gb254, 0, none⟩) (Kd.R_mono (Kd.R_mono HO_9.out (fun k_ hk => (⟨hk, hk.2.2.1⟩ : _ ∧ k_ ≠ gb254))) (fun k_ hk => (⟨hk, hk.1.2.2.2.1⟩ : _ ∧ k_ ≠ gb255))) (fun _ hk => hk.1.2) (.int .i64 ((rd_T34 t256 x31_2).f0))) (fun _ hk => hk.1.2) (.int .i64 ((rd_T34 t256 x31_2).f1))) (fun _ hk => hk.2) (.int .i64 ((rd_T34 y261 x41_3).f0))) (fun _ hk => hk.2) (.int .i64 ((rd_T34 y261 x41_3).f1))) (fun _ hk => ⟨hk.1.1.1, ⟨hk.1.1.2.1, ⟨hk.1.1.2.2.1, ⟨hk.1.1.2.2.2.1, hk.1.1.2.2.2.2.1⟩⟩⟩⟩)⟩, ⟨by (with_reducible repeat (first | apply Kd.R_alloc | apply Kd.R_drewN | apply Kd.R_drew)); exact Kd.R_mono (Kd.R_far (p := ⟨gb255, 1, none⟩) (Kd.R_far (p := ⟨gb255, 0, none⟩) (Kd.R_far (p := ⟨gb254, 1, none⟩) (Kd.R_far (p := ⟨gb254, 0, none⟩) (Kd.R_mono (Kd.R_mono HO_29.out (fun k_ hk => (⟨hk, hk.2.2.1⟩ : _ ∧ k_ ≠ gb254))) (fun k_ hk => (⟨hk, hk.1.2.2.2.1⟩ : _ ∧ k_ ≠ gb255))) (fun _ hk => hk.1.2) (.int .i64 ((rd_T34 t256 x31_2).f0))) (fun _ hk => hk.1.2) (.int .i64 ((rd_T34 t256 x31_2).f1))) (fun _ hk => hk.2) (.int .i64 ((rd_T34 y261 x41_3).f0))) (fun _ hk => hk.2) (.int .i64 ((rd_T34 y261 x41_3).f1))) (fun _ hk => ⟨hk.1.1.1, ⟨hk.1.1.2.1, ⟨hk.1.1.2.2.1, ⟨hk.1.1.2.2.2.1, hk.1.1.2.2.2.2.1⟩⟩⟩⟩)⟩, ⟨by (with_reducible repeat (first | refine blk_drewN ?_ _ | refine blk_drew ?_ | refine blk_alloc ?_ _)); refine blk_far ?_ NB251_255.out _; (with_reducible repeat (first | refine blk_drewN ?_ _ | refine blk_drew ?_ | refine blk_alloc ?_ _)); refine blk_far ?_ NB251_255.out _; (with_reducible repeat (first | refine blk_drewN ?_ _ | refine blk_drew ?_ | refine blk_alloc ?_ _)); refine blk_far ?_ NB251_254.out _; (with_reducible repeat (first | refine blk_drewN ?_ _ | refine blk_drew ?_ | refine blk_alloc ?_ _)); refine blk_far ?_ NB251_254.out _; (with_reducible repeat (first | refine blk_drewN ?_ _ | refine blk_drew ?_ | refine blk_alloc ?_ _)); exact BK251.out⟩, ⟨by (with_reducible repeat (first | refine blk_drewN ?_ _ | refine blk_drew ?_ | refine blk_alloc ?_ _)); refine blk_far ?_ NB252_255.out _; (with_reducible repeat (first | refine blk_drewN ?_ _ | refine blk_drew ?_ | refine blk_alloc ?_ _)); refine blk_far ?_ NB252_255.out _; (with_reducible repeat (first | refine blk_drewN ?_ _ | refine blk_drew ?_ | refine blk_alloc ?_ _)); refine blk_far ?_ NB252_254.out _; (with_reducible repeat (first | refine blk_drewN ?_ _ | refine blk_drew ?_ | refine blk_alloc ?_ _)); refine blk_far ?_ NB252_254.out _; (with_reducible repeat (first | refine blk_drewN ?_ _ | refine blk_drew ?_ | refine blk_alloc ?_ _)); exact BK252.out⟩, ⟨by (with_reducible repeat (first | refine blk_drewN ?_ _ | refine blk_drew ?_ | refine blk_alloc ?_ _)); refine blk_far ?_ NB254_255.out _; (with_reducible repeat (first | refine blk_drewN ?_ _ | refine blk_drew ?_ | refine blk_alloc ?_ _)); refine blk_far ?_ NB254_255.out _; (with_reducible repeat (first | refine blk_drewN ?_ _ | refine blk_drew ?_ | refine blk_alloc ?_ _)); refine blk_put (cs := #[.int .i64 ((rd_T34 t256 x31_2).f0), .int .i64 x255001_3]) ?_ 1 _ rfl; (with_reducible repeat (first | refine blk_drewN ?_ _ | refine blk_drew ?_ | refine blk_alloc ?_ _)); refine blk_put (cs := #[.int .i64 x255000_3, .int .i64 x255001_3]) ?_ 0 _ rfl; (with_reducible repeat (first | refine blk_drewN ?_ _ | refine blk_drew ?_ | refine blk_alloc ?_ _)); exact BK254.out⟩, ⟨by (with_reducible repeat (first | refine blk_drewN ?_ _ | refine blk_drew ?_ | refine blk_alloc ?_ _)); refine blk_put (cs := #[.int .i64 ((rd_T34 y261 x41_3).f0), .int .i64 x256001_3]) ?_ 1 _ rfl; (with_reducible repeat (first | refine blk_drewN ?_ _ | refine blk_drew ?_ | refine blk_alloc ?_ _)); refine blk_put (cs := #[.int .i64 x256000_3, .int .i64 x256001_3]) ?_ 0 _ rfl; (with_reducible repeat (first | refine blk_drewN ?_ _ | refine blk_drew ?_ | refine blk_alloc ?_ _)); refine blk_far ?_ NB255_254.out _; (with_reducible repeat (first | refine blk_drewN ?_ _ | refine blk_drew ?_ | refine blk_alloc ?_ _)); refine blk_far ?_ NB255_254.out _; (with_reducible repeat (first | refine blk_drewN ?_ _ | refine blk_drew ?_ | refine blk_alloc ?_ _)); exact BK255.out⟩, ⟨by (with_reducible repeat (first | refine blk_drewN ?_ _ | refine blk_drew ?_ | refine blk_alloc ?_ _)); refine blk_far ?_ NB260_255.out _; (with_reducible repeat (first | refine blk_drewN ?_ _ | refine blk_drew ?_ | refine blk_alloc ?_ _)); refine blk_far ?_ NB260_255.out _; (with_reducible repeat (first | refine blk_drewN ?_ _ | refine blk_drew ?_ | refine blk_alloc ?_ _)); refine blk_far ?_ NB260_254.out _; (with_reducible repeat (first | refine blk_drewN ?_ _ | refine blk_drew ?_ | refine blk_alloc ?_ _)); refine blk_far ?_ NB260_254.out _; (with_reducible repeat (first | refine blk_drewN ?_ _ | refine blk_drew ?_ | refine blk_alloc ?_ _)); exact BK260.out⟩, ⟨by rw [KA38.out]; exact (show ∀ W_ : World, Kd.C k34 W_ _ (t256.drop ((ji28) : Int).toNat).length (t256.drop ((ji28) : Int).toNat) → Kd.C k34 W_ _ y261.length y261 from fun W_ h_ => by rw [Ny261.out]; exact h_) _ (Kd.C_drop (m := ((ji28) : Int).toNat) (c := co24) ((Kd.R_reads' (by (with_reducible repeat (first | apply Kd.R_alloc | apply Kd.R_drewN | apply Kd.R_drew)); exact (Kd.R_mono (Kd.R_far (p := ⟨gb255, 1, none⟩) (Kd.R_far (p := ⟨gb255, 0, none⟩) (Kd.R_far (p := ⟨gb254, 1, none⟩) (Kd.R_far (p := ⟨gb254, 0, none⟩) (Kd.R_mono (Kd.R_mono HO_9.out (fun k_ hk => (⟨hk, hk.2.2.1⟩ : _ ∧ k_ ≠ gb254))) (fun k_ hk => (⟨hk, hk.1.2.2.2.1⟩ : _ ∧ k_ ≠ gb255))) (fun _ hk => hk.1.2) (.int .i64 ((rd_T34 t256 x31_2).f0))) (fun _ hk => hk.1.2) (.int .i64 ((rd_T34 t256 x31_2).f1))) (fun _ hk => hk.2) (.int .i64 ((rd_T34 y261 x41_3).f0))) (fun _ hk => hk.2) (.int .i64 ((rd_T34 y261 x41_3).f1))) (fun _ h_ => h_.1.1)))).2.2) KL38.out ((Kd.R_reads' HO_9.out).2.1))⟩, ⟨hbg_⟩⟩
                                · rw [if_neg c44] at H
                                  have c44b0 : decide (x8_3 < t269) = false := decide_eq_false c44
                                  clear c44
                                  have H' := Aside0.mk H
                                  clear H
                                  have p265 : 0 ≤ (x41_3 : Int) := odt_
                                  have q265 : x41_3 < (y261.length : Int) := odt_
                                  obtain ⟨ad265, e265, hx265_0, hx265_1⟩ := at_T34 (by repeat (first | (with_reducible exact HR264.out) | (with_reducible refine Kd.C_alloc ?_ _) | (with_reducible refine Kd.C_drewN ?_ _) | (with_reducible refine Kd.C_drew ?_) | exact HR264.out)) x41_3 p265 q265
                                  cases e265
                                  replace p265 := eq_true p265
                                  replace q265 := eq_true q265
                                  go_wp2_with (first | ((with_reducible refine gate_dst (N := 13) rfl ?_); (try (refine gate_guard (by rfl) ?_; dsimp only)); refine box_event ?hg (N := 13) ?hd (cs := #[.int .i64 0, .int .i64 0]) (t := 34) ?hr ?_; (case hd => rfl); (case hg => rfl); (case hr => first | (go_simp; done) | (go_simp; rfl)); intro gb266 hg w66 hbox hb; have n0_ := Aside0.mk (Kd.R_below (Kd.R_elderB (rk_ HO_9.out) gb266 (Nat.le_of_eq hg.symm)) hb); have n1_ := Aside0.mk (Kd.R_below (Kd.R_elderB (rk_ HO_29.out) gb266 (Nat.le_of_eq hg.symm)) hb); have n2_ := bb_ BK251 hb; have n3_ := bb_ BK252 hb; have n4_ := bb_ BK254 hb; have n5_ := bb_ BK255 hb; have n6_ := bb_ BK260 hb; have n7_ := Aside0.mk (Kd.C_below (by repeat (first | (with_reducible exact HR264.out) | (with_reducible refine Kd.C_alloc ?_ _) | (with_reducible refine Kd.C_drewN ?_ _) | (with_reducible refine Kd.C_drew ?_) | exact HR264.out)) hb); have n8_ := Aside0.mk (below_step (hbg_) hb); have n9_ := Aside0.mk (hbox); have n10_ := Aside0.mk ((by rw [hg]; exact (below_size (hbg_)) : w.heap.size ≤ gb266)); have n11_ := Aside0.mk ((by rw [hg]; exact (below_size (hbg_)) : w.heap.size ≤ gb266)); have n12_ := Aside0.mk ((by rw [hg]; exact Nat.ne_of_lt (blk_lt (bk_ BK251.out)) : gb251 ≠ gb266)); have n13_ := Aside0.mk ((by rw [hg]; exact Nat.ne_of_gt (blk_lt (bk_ BK251.out)) : gb266 ≠ gb251)); have n14_ := Aside0.mk ((by rw [hg]; exact Nat.ne_of_lt (blk_lt (bk_ BK252.out)) : gb252 ≠ gb266)); have n15_ := Aside0.mk ((by rw [hg]; exact Nat.ne_of_gt (blk_lt (bk_ BK252.out)) : gb266 ≠ gb252)); have n16_ := Aside0.mk ((by rw [hg]; exact Nat.ne_of_lt (blk_lt (bk_ BK254.out)) : gb254 ≠ gb266)); have n17_ := Aside0.mk ((by rw [hg]; exact Nat.ne_of_gt (blk_lt (bk_ BK254.out)) : gb266 ≠ gb254)); have n18_ := Aside0.mk ((by rw [hg]; exact Nat.ne_of_lt (blk_lt (bk_ BK255.out)) : gb255 ≠ gb266)); have n19_ := Aside0.mk ((by rw [hg]; exact Nat.ne_of_gt (blk_lt (bk_ BK255.out)) : gb266 ≠ gb255)); have n20_ := Aside0.mk ((by rw [hg]; exact Nat.ne_of_lt (blk_lt (bk_ BK260.out)) : gb260 ≠ gb266)); have n21_ := Aside0.mk ((by rw [hg]; exact Nat.ne_of_gt (blk_lt (bk_ BK260.out)) : gb266 ≠ gb260)); clear HO_9; clear HO_29; clear BK251; clear BK252; clear BK254; clear BK255; clear BK260; clear HR264; clear HB; have HO_9 := n0_; have HO_29 := n1_; have BK251 := n2_; have BK252 := n3_; have BK254 := n4_; have BK255 := n5_; have BK260 := n6_; have HR264 := n7_; have HB := n8_; have BK266 := n9_; have GW266 := n10_; have GE266 := n11_; have NB251_266 := n12_; have NB266_251 := n13_; have NB252_266 := n14_; have NB266_252 := n15_; have NB254_266 := n16_; have NB266_254 := n17_; have NB255_266 := n18_; have NB266_255 := n19_; have NB260_266 := n20_; have NB266_260 := n21_; clear n0_ n1_ n2_ n3_ n4_ n5_ n6_ n7_ n8_ n9_ n10_ n11_ n12_ n13_ n14_ n15_ n16_ n17_ n18_ n19_ n20_ n21_; clear hb hbox hg; have hnb67 := NB266_251.out; have hnc67 := NB251_266.out; have hnb68 := NB266_252.out; have hnc68 := NB252_266.out; have hnb69 := NB266_254.out; have hnc69 := NB254_266.out; have hnb70 := NB266_255.out; have hnc70 := NB255_266.out; have hnb71 := NB266_260.out; have hnc71 := NB260_266.out; have hcz72_0 : w66.cell? ⟨gb266, 0, none⟩ = some (.int .i64 0) := (blk_cell BK266.out 0).trans rfl; have hcz72_1 : w66.cell? ⟨gb266, 1, none⟩ = some (.int .i64 0) := (blk_cell BK266.out 1).trans rfl; have hfz72_0 := blk_frozen BK266.out 0; have hfz72_1 := blk_frozen BK266.out 1) | ((with_reducible refine gate_store (t := 34) (p := 13) rfl ?_); refine store_event (t := 34) (p := 13) (v := ?vo_w73) (w1 := ((w66.setCell ⟨gb266, 0, none⟩ (.int .i64 ((rd_T34 y261 x41_3).f0))).setCell ⟨gb266, 1, none⟩ (.int .i64 ((rd_T34 y261 x41_3).f1)))) ?hg ?ho ?hn ?hr ?_; (case ho => rfl); (case hg => rfl); (case hn => rfl); (case hr => first | (go_simp; done) | (go_simp; rfl)); intro w73 hw; have n0_ : Aside0 (Kd.R k34 34 w73 w.heap.size (fun k_ => k_ ≠ gb251 ∧ k_ ≠ gb252 ∧ k_ ≠ gb254 ∧ k_ ≠ gb255 ∧ k_ ≠ gb260 ∧ k_ ≠ gb266) (.slice (some ad259) t256.length co24) t256) := ⟨(by rw [hw]; exact (by (with_reducible repeat (first | apply Kd.R_alloc | apply Kd.R_drewN | apply Kd.R_drew)); exact Kd.R_mono (Kd.R_far (p := ⟨gb266, 1, none⟩) (Kd.R_far (p := ⟨gb266, 0, none⟩) (Kd.R_mono HO_9.out (fun k_ hk => (⟨hk, hk.2⟩ : _ ∧ k_ ≠ gb266))) (fun _ hk => hk.2) (.int .i64 ((rd_T34 y261 x41_3).f0))) (fun _ hk => hk.2) (.int .i64 ((rd_T34 y261 x41_3).f1))) (fun _ hk => ⟨hk.1.1.1, ⟨hk.1.1.2.1, ⟨hk.1.1.2.2.1, ⟨hk.1.1.2.2.2.1, ⟨hk.1.1.2.2.2.2, hk.1.2⟩⟩⟩⟩⟩)))⟩; have n1_ : Aside0 (Kd.R k34 34 w73 w.heap.size (fun k_ => k_ ≠ gb251 ∧ k_ ≠ gb252 ∧ k_ ≠ gb254 ∧ k_ ≠ gb255 ∧ k_ ≠ gb260 ∧ k_ ≠ gb266) (.slice (some ad259) t256.length co24) t256) := ⟨(by rw [hw]; exact (by (with_reducible repeat (first | apply Kd.R_alloc | apply Kd.R_drewN | apply Kd.R_drew)); exact Kd.R_mono (Kd.R_far (p := ⟨gb266, 1, none⟩) (Kd.R_far (p := ⟨gb266, 0, none⟩) (Kd.R_mono HO_29.out (fun k_ hk => (⟨hk, hk.2⟩ : _ ∧ k_ ≠ gb266))) (fun _ hk => hk.2) (.int .i64 ((rd_T34 y261 x41_3).f0))) (fun _ hk => hk.2) (.int .i64 ((rd_T34 y261 x41_3).f1))) (fun _ hk => ⟨hk.1.1.1, ⟨hk.1.1.2.1, ⟨hk.1.1.2.2.1, ⟨hk.1.1.2.2.2.1, ⟨hk.1.1.2.2.2.2, hk.1.2⟩⟩⟩⟩⟩)))⟩; have n2_ : Aside0 (Kd.C k34 w73 (some ad265) y261.length y261) := ⟨(by rw [hw]; exact ((by rw [KA38.out]; exact (show ∀ W_ : World, Kd.C k34 W_ _ (t256.drop ((ji28) : Int).toNat).length (t256.drop ((ji28) : Int).toNat) → Kd.C k34 W_ _ y261.length y261 from fun W_ h_ => by rw [Ny261.out]; exact h_) _ (Kd.C_drop (m := ((ji28) : Int).toNat) (c := co24) ((Kd.R_reads' (show Kd.R k34 34 ((w66.setCell ⟨gb266, 0, none⟩ (.int .i64 ((rd_T34 y261 x41_3).f0))).setCell ⟨gb266, 1, none⟩ (.int .i64 ((rd_T34 y261 x41_3).f1))) w.heap.size (fun k_ => k_ ≠ gb251 ∧ k_ ≠ gb252 ∧ k_ ≠ gb254 ∧ k_ ≠ gb255 ∧ k_ ≠ gb260 ∧ k_ ≠ gb266) (.slice (some ad259) t256.length co24) t256 from by (with_reducible repeat (first | apply Kd.R_alloc | apply Kd.R_drewN | apply Kd.R_drew)); exact Kd.R_mono (Kd.R_far (p := ⟨gb266, 1, none⟩) (Kd.R_far (p := ⟨gb266, 0, none⟩) (Kd.R_mono HO_9.out (fun k_ hk => (⟨hk, hk.2⟩ : _ ∧ k_ ≠ gb266))) (fun _ hk => hk.2) (.int .i64 ((rd_T34 y261 x41_3).f0))) (fun _ hk => hk.2) (.int .i64 ((rd_T34 y261 x41_3).f1))) (fun _ hk => ⟨hk.1.1.1, ⟨hk.1.1.2.1, ⟨hk.1.1.2.2.1, ⟨hk.1.1.2.2.2.1, ⟨hk.1.1.2.2.2.2, hk.1.2⟩⟩⟩⟩⟩))).2.2) KL38.out ((Kd.R_reads' (show Kd.R k34 34 ((w66.setCell ⟨gb266, 0, none⟩ (.int .i64 ((rd_T34 y261 x41_3).f0))).setCell ⟨gb266, 1, none⟩ (.int .i64 ((rd_T34 y261 x41_3).f1))) w.heap.size (fun k_ => k_ ≠ gb251 ∧ k_ ≠ gb252 ∧ k_ ≠ gb254 ∧ k_ ≠ gb255 ∧ k_ ≠ gb260 ∧ k_ ≠ gb266) (.slice (some ad259) t256.length co24) t256 from by (with_reducible repeat (first | apply Kd.R_alloc | apply Kd.R_drewN | apply Kd.R_drew)); exact Kd.R_mono (Kd.R_far (p := ⟨gb266, 1, none⟩) (Kd.R_far (p := ⟨gb266, 0, none⟩) (Kd.R_mono HO_9.out (fun k_ hk => (⟨hk, hk.2⟩ : _ ∧ k_ ≠ gb266))) (fun _ hk => hk.2) (.int .i64 ((rd_T34 y261 x41_3).f0))) (fun _ hk => hk.2) (.int .i64 ((rd_T34 y261 x41_3).f1))) (fun _ hk => ⟨hk.1.1.1, ⟨hk.1.1.2.1, ⟨hk.1.1.2.2.1, ⟨hk.1.1.2.2.2.1, ⟨hk.1.1.2.2.2.2, hk.1.2⟩⟩⟩⟩⟩))).2.1)))))⟩; have n3_ : Aside0 (w73.heap[gb251]? = some (.cells #[.int .i64 0, .int .i64 0] 34 (0, 0))) := ⟨(by rw [hw]; exact (bf2_ BK251 NB251_266))⟩; have n4_ : Aside0 (w73.heap[gb252]? = some (.cells #[.int .i64 0, .int .i64 0] 34 (0, 0))) := ⟨(by rw [hw]; exact (bf2_ BK252 NB252_266))⟩; have n5_ : Aside0 (w73.heap[gb254]? = some (.cells #[.int .i64 x255000_3, .int .i64 x255001_3] 34 (0, 0))) := ⟨(by rw [hw]; exact (bf2_ BK254 NB254_266))⟩; have n6_ : Aside0 (w73.heap[gb255]? = some (.cells #[.int .i64 x256000_3, .int .i64 x256001_3] 34 (0, 0))) := ⟨(by rw [hw]; exact (bf2_ BK255 NB255_266))⟩; have n7_ : Aside0 (w73.heap[gb260]? = some (.cells #[.int .i64 ((rd_T34 t256 x31_2).f0), .int .i64 ((rd_T34 t256 x31_2).f1)] 34 (0, 0))) := ⟨(by rw [hw]; exact (bf2_ BK260 NB260_266))⟩; have n8_ : Aside0 (w73.heap[gb266]? = some (.cells #[.int .i64 ((rd_T34 y261 x41_3).f0), .int .i64 ((rd_T34 y261 x41_3).f1)] 34 (0, 0))) := ⟨(by rw [hw]; exact (by (with_reducible repeat (first | refine blk_drewN ?_ _ | refine blk_drew ?_ | refine blk_alloc ?_ _)); refine blk_put (cs := #[.int .i64 ((rd_T34 y261 x41_3).f0), .int .i64 0]) ?_ 1 _ rfl; (with_reducible repeat (first | refine blk_drewN ?_ _ | refine blk_drew ?_ | refine blk_alloc ?_ _)); refine blk_put (cs := #[.int .i64 0, .int .i64 0]) ?_ 0 _ rfl; (with_reducible repeat (first | refine blk_drewN ?_ _ | refine blk_drew ?_ | refine blk_alloc ?_ _)); exact BK266.out))⟩; have n9_ : Aside0 (Below w.heap.size w w73) := ⟨(by rw [hw]; exact (hbg_))⟩; clear hw; clear HO_9; clear HO_29; clear HR264; clear BK251; clear BK252; clear BK254; clear BK255; clear BK260; clear BK266; clear HB; have HO_9 := n0_; have HO_29 := n1_; have HR264 := n2_; have BK251 := n3_; have BK252 := n4_; have BK254 := n5_; have BK255 := n6_; have BK260 := n7_; have BK266 := n8_; have HB := n9_; clear n0_ n1_ n2_ n3_ n4_ n5_ n6_ n7_ n8_ n9_; have hnb74 := NB260_251.out; have hnc74 := NB251_260.out; have hnb75 := NB260_252.out; have hnc75 := NB252_260.out; have hnb76 := NB260_254.out; have hnc76 := NB254_260.out; have hnb77 := NB260_255.out; have hnc77 := NB255_260.out; have hcz78_0 : w73.cell? ⟨gb260, 0, none⟩ = some (.int .i64 ((rd_T34 t256 x31_2).f0)) := (blk_cell BK260.out 0).trans rfl; have hcz78_1 : w73.cell? ⟨gb260, 1, none⟩ = some (.int .i64 ((rd_T34 t256 x31_2).f1)) := (blk_cell BK260.out 1).trans rfl; have hfz78_0 := blk_frozen BK260.out 0; have hfz78_1 := blk_frozen BK260.out 1; have hcz79_0 : w73.cell? ⟨gb266, 0, none⟩ = some (.int .i64 ((rd_T34 y261 x41_3).f0)) := (blk_cell BK266.out 0).trans rfl; have hcz79_1 : w73.cell? ⟨gb266, 1, none⟩ = some (.int .i64 ((rd_T34 y261 x41_3).f1)) := (blk_cell BK266.out 1).trans rfl; have hfz79_0 := blk_frozen BK266.out 0; have hfz79_1 := blk_frozen BK266.out 1) | ((with_reducible refine gate_callee (f := 61) rfl ?_); refine goesL_ (some 47) rfl rfl Try.func61 (by kernel_rfl) rfl #[.agg #[.int .i64 ((rd_T34 t256 x31_2).f0), .int .i64 ((rd_T34 t256 x31_2).f1)], .agg #[.int .i64 ((rd_T34 y261 x41_3).f0), .int .i64 ((rd_T34 y261 x41_3).f1)]] rfl ga_ ?_; (with_reducible refine (impl_Peg_less.calls ((rd_T34 t256 x31_2).f0) ((rd_T34 t256 x31_2).f1) ((rd_T34 y261 x41_3).f0) ((rd_T34 y261 x41_3).f1) t267 t268 _ A42.out).mono ?_); rintro e w80 ⟨rfl, hb⟩; refine ⟨_, rfl, ?_⟩; have n0_ := Aside0.mk (Kd.R_below (rk_ HO_9.out) hb); have n1_ := Aside0.mk (Kd.R_below (rk_ HO_29.out) hb); have n2_ := bb_ BK251 hb; have n3_ := bb_ BK252 hb; have n4_ := bb_ BK254 hb; have n5_ := bb_ BK255 hb; have n6_ := bb_ BK260 hb; have n7_ := Aside0.mk (Kd.C_below (by repeat (first | (with_reducible exact HR264.out) | (with_reducible refine Kd.C_alloc ?_ _) | (with_reducible refine Kd.C_drewN ?_ _) | (with_reducible refine Kd.C_drew ?_) | exact HR264.out)) hb); have n8_ := bb_ BK266 hb; have n9_ := Aside0.mk (below_step (hbg_) hb); clear HO_9; clear HO_29; clear BK251; clear BK252; clear BK254; clear BK255; clear BK260; clear HR264; clear BK266; clear HB; have HO_9 := n0_; have HO_29 := n1_; have BK251 := n2_; have BK252 := n3_; have BK254 := n4_; have BK255 := n5_; have BK260 := n6_; have HR264 := n7_; have BK266 := n8_; have HB := n9_; clear n0_ n1_ n2_ n3_ n4_ n5_ n6_ n7_ n8_ n9_; (try clear hb); (try clear hb2); (try clear hk); (try clear hi)) | ((with_reducible refine gate_callee (f := 62) rfl ?_); refine goesL_ (some 48) rfl rfl Try.func62 (by kernel_rfl) rfl #[.agg #[.int .i64 t267, .int .i64 t268]] rfl ga_ ?_; (with_reducible refine (impl_Peg_square.calls t267 t268 t269 _ A43.out).mono ?_); rintro e w81 ⟨rfl, hb⟩; refine ⟨_, rfl, ?_⟩; have n0_ := Aside0.mk (Kd.R_below (rk_ HO_9.out) hb); have n1_ := Aside0.mk (Kd.R_below (rk_ HO_29.out) hb); have n2_ := bb_ BK251 hb; have n3_ := bb_ BK252 hb; have n4_ := bb_ BK254 hb; have n5_ := bb_ BK255 hb; have n6_ := bb_ BK260 hb; have n7_ := Aside0.mk (Kd.C_below (by repeat (first | (with_reducible exact HR264.out) | (with_reducible refine Kd.C_alloc ?_ _) | (with_reducible refine Kd.C_drewN ?_ _) | (with_reducible refine Kd.C_drew ?_) | exact HR264.out)) hb); have n8_ := bb_ BK266 hb; have n9_ := Aside0.mk (below_step (hbg_) hb); clear HO_9; clear HO_29; clear BK251; clear BK252; clear BK254; clear BK255; clear BK260; clear HR264; clear BK266; clear HB; have HO_9 := n0_; have HO_29 := n1_; have BK251 := n2_; have BK252 := n3_; have BK254 := n4_; have BK255 := n5_; have BK260 := n6_; have HR264 := n7_; have BK266 := n8_; have HB := n9_; clear n0_ n1_ n2_ n3_ n4_ n5_ n6_ n7_ n8_ n9_; (try clear hb); (try clear hb2); (try clear hk); (try clear hi)))
                                  go_roundg k3
                                  case measure => have := HJ1.out; have := HK2.out; have := HK3.out; omega
                                  case rel => exact ⟨(x8_3), (wrap64 (x41_3 + 1)), (x255000_3), (x255001_3), (x256000_3), (x256001_3), (by first | rfl | (simp; done) | (simp [*]; done)), (by first | rfl | (simp; done) | (simp [*]; done)), H', ⟨by have := HJ1.out; have := HK2.out; have := HK3.out; omega⟩, ⟨by (with_reducible repeat (first | apply Kd.R_alloc | apply Kd.R_drewN | apply Kd.R_drew)); exact Kd.R_mono HO_9.out (fun _ hk => ⟨hk.1, ⟨hk.2.1, ⟨hk.2.2.1, ⟨hk.2.2.2.1, hk.2.2.2.2.1⟩⟩⟩⟩)⟩, ⟨by (with_reducible repeat (first | apply Kd.R_alloc | apply Kd.R_drewN | apply Kd.R_drew)); exact Kd.R_mono HO_29.out (fun _ hk => ⟨hk.1, ⟨hk.2.1, ⟨hk.2.2.1, ⟨hk.2.2.2.1, hk.2.2.2.2.1⟩⟩⟩⟩)⟩, ⟨bk_ BK251.out⟩, ⟨bk_ BK252.out⟩, ⟨bk_ BK254.out⟩, ⟨bk_ BK255.out⟩, ⟨bk_ BK260.out⟩, ⟨by repeat (first | (with_reducible exact HR264.out) | (with_reducible refine Kd.C_alloc ?_ _) | (with_reducible refine Kd.C_drewN ?_ _) | (with_reducible refine Kd.C_drew ?_) | exact HR264.out)⟩, ⟨hbg_⟩⟩
                              · rw [if_neg c41] at H
                                exact absurd H (by simp)
                            · rw [if_neg c40] at H
                              exact absurd H (by simp)
                          · rw [if_neg c39] at H
                            have c39b0 : decide (x41_3 < (y261.length : Int)) = false := decide_eq_false c39
                            clear c39
                            have H' := Aside0.mk H
                            clear H
                            go_wp2
                            go_roundg k3
                            case measure => have := HJ1.out; have := HK2.out; have := HK3.out; omega
                            case rel => exact ⟨(x8_3), (wrap64 (x31_2 + 1)), (x255000_3), (x255001_3), (x256000_3), (x256001_3), (by first | rfl | (simp; done) | (simp [*]; done)), (by first | rfl | (simp; done) | (simp [*]; done)), H', ⟨by have := HJ1.out; have := HK2.out; have := HK3.out; omega⟩, ⟨by (with_reducible repeat (first | apply Kd.R_alloc | apply Kd.R_drewN | apply Kd.R_drew)); exact Kd.R_mono HO_9.out (fun _ hk => ⟨hk.1, ⟨hk.2.1, ⟨hk.2.2.1, hk.2.2.2.1⟩⟩⟩)⟩, ⟨by (with_reducible repeat (first | apply Kd.R_alloc | apply Kd.R_drewN | apply Kd.R_drew)); exact Kd.R_mono HO_29.out (fun _ hk => ⟨hk.1, ⟨hk.2.1, ⟨hk.2.2.1, hk.2.2.2.1⟩⟩⟩)⟩, ⟨bk_ BK251.out⟩, ⟨bk_ BK252.out⟩, ⟨bk_ BK254.out⟩, ⟨bk_ BK255.out⟩, ⟨hbg_⟩⟩
                    · rw [if_neg c30] at H
                      exact absurd H (by simp)
                  · rw [if_neg c29] at H
                    exact absurd H (by simp)
                · rw [if_neg c27] at H
                  exact absurd H (by simp)
              · rw [if_neg c26] at H
                exact absurd H (by simp)
            · rw [if_neg c25] at H
              have c25b0 : decide (x31_2 < (t256.length : Int)) = false := decide_eq_false c25
              clear c25
              simp only [Option.some.injEq, Prod.mk.injEq] at H
              obtain ⟨rfl, rfl, rfl, rfl, rfl, rfl⟩ := H
              try go_wp2
              have n0_ := Aside0.mk (Kd.R_drew HO_9.out)
              have n1_ := Aside0.mk (Kd.R_drew HO_29.out)
              have n2_ := Aside0.mk (blk_drew BK251.out)
              have n3_ := Aside0.mk (blk_drew BK252.out)
              have n4_ := Aside0.mk (blk_drew BK254.out)
              have n5_ := Aside0.mk (blk_drew BK255.out)
              have n6_ := Aside0.mk (below_drew1 HB.out)
              clear HO_9
              clear HO_29
              clear BK251
              clear BK252
              clear BK254
              clear BK255
              clear HB
              have HO_9 := n0_
              have HO_29 := n1_
              have BK251 := n2_
              have BK252 := n3_
              have BK254 := n4_
              have BK255 := n5_
              have HB := n6_
              clear n0_ n1_ n2_ n3_ n4_ n5_ n6_
              refine start_ (n := 7) (S := fun w' => w'.cell? ⟨gb254, 0, none⟩ = some (.int .i64 x255000_2) ∧ w'.cell? ⟨gb254, 1, none⟩ = some (.int .i64 x255001_2) ∧ w'.cell? ⟨gb255, 0, none⟩ = some (.int .i64 x256000_2) ∧ w'.cell? ⟨gb255, 1, none⟩ = some (.int .i64 x256001_2)) (ds := []) #[false, false, false, false, false, false, false] (by kernel_rfl) rfl rfl ⟨(blk_cell BK254.out 0).trans rfl, (blk_cell BK254.out 1).trans rfl, (blk_cell BK255.out 0).trans rfl, (blk_cell BK255.out 1).trans rfl⟩ (fun hHeld => ?_)
              generalize wr.drew = w82 at HO_9 HO_29 BK251 BK252 BK254 BK255 HB hHeld ⊢
              refine pure_ (i := 2) (N := some 59) (v := ?_) (a' := ?_) #[false, false, true, false, false, false, false] rfl rfl (by kernel_rfl) (fun _ _ _ h => h) (Or.inl ⟨by rfl, ?_⟩) ?_ ?_
              rotate_left
              · intro w'
                go_simp
                with_reducible rfl
              rotate_left
              · simp only [Act.put, sA, sB, sC, i64_w, i32_w]
                rfl
              refine take_ (i := 0) (N := some 57) (v := ?_) (a' := ?_) #[true, false, true, false, false, false, false] rfl rfl (by kernel_rfl) (fun _ _ _ h => h) (Or.inl ⟨by rfl, ?_⟩) hHeld ?_ ?_
              rotate_left
              · rintro w' ⟨s0, s1, s2, s3⟩
                go_simp
                with_reducible rfl
              rotate_left
              · simp only [Act.put, sA, sB, sC, i64_w, i32_w]
                rfl
              refine take_ (i := 1) (N := some 58) (v := ?_) (a' := ?_) #[true, true, true, false, false, false, false] rfl rfl (by kernel_rfl) (fun _ _ _ h => h) (Or.inl ⟨by rfl, ?_⟩) hHeld ?_ ?_
              rotate_left
              · rintro w' ⟨s0, s1, s2, s3⟩
                go_simp
                with_reducible rfl
              rotate_left
              · simp only [Act.put, sA, sB, sC, i64_w, i32_w]
                rfl
              refine one_ (i := 3) (N := none) #[true, true, true, true, false, false, false] rfl rfl (by kernel_rfl) (by decide) (fun K hK => ?_)
              have hs83 : w82.cell? ⟨gb251, 0, none⟩ = some (.int .i64 0) := (blk_cell BK251.out 0).trans rfl
              have hfs83 := blk_frozen BK251.out 0
              have hns83_1 := NB252_251.out
              have hns83_2 := NB254_251.out
              have hns83_3 := NB255_251.out
              have hms83_1 := NB251_252.out
              have hms83_2 := NB251_254.out
              have hms83_3 := NB251_255.out
              have hs84 : w82.cell? ⟨gb251, 1, none⟩ = some (.int .i64 0) := (blk_cell BK251.out 1).trans rfl
              have hfs84 := blk_frozen BK251.out 1
              have hns84_1 := NB252_251.out
              have hns84_2 := NB254_251.out
              have hns84_3 := NB255_251.out
              have hms84_1 := NB251_252.out
              have hms84_2 := NB251_254.out
              have hms84_3 := NB251_255.out
              refine skip_ (w1 := ?_) (by rfl) rfl ?_ ?_
              rotate_left
              · go_simp
                rfl
              refine hK.out _ _ ⟨((cell_far (p := ⟨gb251, _, none⟩) NB254_251.out _).trans (((cell_far (p := ⟨gb251, _, none⟩) NB254_251.out _).trans (hHeld.1)))), ((cell_far (p := ⟨gb251, _, none⟩) NB254_251.out _).trans (((cell_far (p := ⟨gb251, _, none⟩) NB254_251.out _).trans (hHeld.2.1)))), ((cell_far (p := ⟨gb251, _, none⟩) NB255_251.out _).trans (((cell_far (p := ⟨gb251, _, none⟩) NB255_251.out _).trans (hHeld.2.2.1)))), ((cell_far (p := ⟨gb251, _, none⟩) NB255_251.out _).trans (((cell_far (p := ⟨gb251, _, none⟩) NB255_251.out _).trans (hHeld.2.2.2))))⟩ (fun hHeld => ?_)
              clear hK K
              refine one_ (i := 4) (N := none) #[true, true, true, true, true, false, false] rfl rfl (by kernel_rfl) (by decide) (fun K hK => ?_)
              have hs85 : w82.cell? ⟨gb252, 0, none⟩ = some (.int .i64 0) := (blk_cell BK252.out 0).trans rfl
              have hfs85 := blk_frozen BK252.out 0
              have hns85_0 := NB251_252.out
              have hns85_2 := NB254_252.out
              have hns85_3 := NB255_252.out
              have hms85_0 := NB252_251.out
              have hms85_2 := NB252_254.out
              have hms85_3 := NB252_255.out
              have hs86 : w82.cell? ⟨gb252, 1, none⟩ = some (.int .i64 0) := (blk_cell BK252.out 1).trans rfl
              have hfs86 := blk_frozen BK252.out 1
              have hns86_0 := NB251_252.out
              have hns86_2 := NB254_252.out
              have hns86_3 := NB255_252.out
              have hms86_0 := NB252_251.out
              have hms86_2 := NB252_254.out
              have hms86_3 := NB252_255.out
              refine skip_ (w1 := ?_) (by rfl) rfl ?_ ?_
              rotate_left
              · go_simp
                rfl
              refine hK.out _ _ ⟨((cell_far (p := ⟨gb252, _, none⟩) NB254_252.out _).trans (((cell_far (p := ⟨gb252, _, none⟩) NB254_252.out _).trans (hHeld.1)))), ((cell_far (p := ⟨gb252, _, none⟩) NB254_252.out _).trans (((cell_far (p := ⟨gb252, _, none⟩) NB254_252.out _).trans (hHeld.2.1)))), ((cell_far (p := ⟨gb252, _, none⟩) NB255_252.out _).trans (((cell_far (p := ⟨gb252, _, none⟩) NB255_252.out _).trans (hHeld.2.2.1)))), ((cell_far (p := ⟨gb252, _, none⟩) NB255_252.out _).trans (((cell_far (p := ⟨gb252, _, none⟩) NB255_252.out _).trans (hHeld.2.2.2))))⟩ (fun hHeld => ?_)
              clear hK K
              refine pure_ (i := 5) (N := some 4) (v := ?_) (a' := ?_) #[true, true, true, true, true, true, false] rfl rfl (by kernel_rfl) (fun _ _ _ h => h) (Or.inl ⟨by rfl, ?_⟩) ?_ ?_
              rotate_left
              · intro w'
                go_simp
                with_reducible rfl
              rotate_left
              · simp only [Act.put, sA, sB, sC, i64_w, i32_w]
                rfl
              refine pure_ (i := 6) (N := some 5) (v := ?_) (a' := ?_) #[true, true, true, true, true, true, true] rfl rfl (by kernel_rfl) (fun _ _ _ h => h) (Or.inl ⟨by rfl, ?_⟩) ?_ ?_
              rotate_left
              · intro w'
                go_simp
                with_reducible rfl
              rotate_left
              · simp only [Act.put, sA, sB, sC, i64_w, i32_w]
                rfl
              refine done_ (by kernel_rfl) ?_
              try go_wp2
              refine bodyPost_ret (results_list (rs := [.cell 2 34, .cell 3 34, .tmp 4, .tmp 5]) rfl (by simp) (.cell gb251 34 #[.int .i64 x255000_2, .int .i64 x255001_2] (0, 0) _ rfl (by (with_reducible repeat (first | refine blk_drewN ?_ _ | refine blk_drew ?_ | refine blk_alloc ?_ _)); refine blk_far ?_ NB251_252.out _; (with_reducible repeat (first | refine blk_drewN ?_ _ | refine blk_drew ?_ | refine blk_alloc ?_ _)); refine blk_far ?_ NB251_252.out _; (with_reducible repeat (first | refine blk_drewN ?_ _ | refine blk_drew ?_ | refine blk_alloc ?_ _)); refine blk_put (cs := #[.int .i64 x255000_2, .int .i64 0]) ?_ 1 _ rfl; (with_reducible repeat (first | refine blk_drewN ?_ _ | refine blk_drew ?_ | refine blk_alloc ?_ _)); refine blk_put (cs := #[.int .i64 0, .int .i64 0]) ?_ 0 _ rfl; (with_reducible repeat (first | refine blk_drewN ?_ _ | refine blk_drew ?_ | refine blk_alloc ?_ _)); exact BK251.out) Try.underlying34 rfl (by kernel_rfl) (.cell gb252 34 #[.int .i64 x256000_2, .int .i64 x256001_2] (0, 0) _ rfl (by (with_reducible repeat (first | refine blk_drewN ?_ _ | refine blk_drew ?_ | refine blk_alloc ?_ _)); refine blk_put (cs := #[.int .i64 x256000_2, .int .i64 0]) ?_ 1 _ rfl; (with_reducible repeat (first | refine blk_drewN ?_ _ | refine blk_drew ?_ | refine blk_alloc ?_ _)); refine blk_put (cs := #[.int .i64 0, .int .i64 0]) ?_ 0 _ rfl; (with_reducible repeat (first | refine blk_drewN ?_ _ | refine blk_drew ?_ | refine blk_alloc ?_ _)); refine blk_far ?_ NB252_251.out _; (with_reducible repeat (first | refine blk_drewN ?_ _ | refine blk_drew ?_ | refine blk_alloc ?_ _)); refine blk_far ?_ NB252_251.out _; (with_reducible repeat (first | refine blk_drewN ?_ _ | refine blk_drew ?_ | refine blk_alloc ?_ _)); exact BK252.out) Try.underlying34 rfl (by kernel_rfl) (.tmp (.tmp .nil))))) rfl ?_
              exact ⟨by first | rfl | (simp [errW_none, errW_some] <;> rfl) | (simp [*, errW_none, errW_some] <;> rfl), hbg_⟩

end Go.Proofs.Ytaclbccjcjdbpaa.MF
