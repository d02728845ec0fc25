-- Written by a program of this session (wip/print/myprint.py) over the kit's printer; Lean checks it.
import Derived.Test.YtaclbccjcjdbpaaMFx0
import Derived.Test.YtaclbccjcjdbpaaMFx4
import Derived.Test.YtaclbccjcjdbpaaMFx5
import Derived.Test.YtaclbccjcjdbpaaMFx6
namespace Go.Proofs.Ytaclbccjcjdbpaa.MF
open Go.RowKit Go.Proofs.YtaclbccjcjdbpaaW.PrintWords Go.Proofs.YtaclbccjcjdbpaaW.PrintLast Go.Proofs.YtaclbccjcjdbpaaW.PrintMore Go.Proofs.YtaclbccjcjdbpaaV
attribute [local go_sem] max2_int min2_int max_two min_two max_three min_three max_four min_four   -- for this text's walks alone
set_option linter.unusedVariables false
set_option linter.unusedSimpArgs false

/-! ### spec_FarthestApart: function 24 -/
mutual
def spec_FarthestApart.j0 : Nat → List (S34) → Bool → Option (Int × Int × Int × Int × Int × Bool)
  | 0, _, _ => none
  | k + 1, x0, x20 => if x20 = true then (some (0, 0, 0, 0, 0, false)) else ((spec_bdSorted.f k x0).bind fun t186 => (if 0 < (t186.length : Int) then (if 1 < (t186.length : Int) then (spec_FarthestApart.l0 k t186 t186 (t186.length : Int) 0 ((rd_T34 t186 0).f0) ((rd_T34 t186 0).f1) ((rd_T34 t186 1).f0) ((rd_T34 t186 1).f1)) else (none)) else (none)))
def spec_FarthestApart.l0 : Nat → List (S34) → List (S34) → Int → Int → Int → Int → Int → Int → Option (Int × Int × Int × Int × Int × Bool)
  | 0, _, _, _, _, _, _, _, _ => none
  | k + 1, x6, x31, x32, x33, x192000, x192001, x193000, x193001 => if x33 < x32 then (if 0 ≤ x33 then (if x33 < (x31.length : Int) then (if 0 ≤ (wrap64 (x33 + 1)) then (if (wrap64 (x33 + 1)) ≤ (x6.length : Int) then ((some (x6.drop ((wrap64 (x33 + 1)) : Int).toNat : List (S34))).bind fun y196 => (spec_FarthestApart.l1 k x6 x31 x32 x33 y196 (y196.length : Int) 0 x192000 x192001 x193000 x193001 ((rd_T34 x31 x33).f0) ((rd_T34 x31 x33).f1))) else (none)) else (none)) else (none)) else (none)) else ((spec_bdFar.f x192000 x192001 x193000 x193001).bind fun t193 => (some (x192000, x192001, x193000, x193001, t193, true)))
def spec_FarthestApart.l1 : Nat → List (S34) → List (S34) → Int → Int → List (S34) → Int → Int → Int → Int → Int → Int → Int → Int → Option (Int × Int × Int × Int × Int × Bool)
  | 0, _, _, _, _, _, _, _, _, _, _, _, _, _ => none
  | k + 1, x6, x31, x32, x33, x41, x42, x43, x192000, x192001, x193000, x193001, x196000, x196001 => if x43 < x42 then (if 0 ≤ x43 then (if x43 < (x41.length : Int) then ((spec_bdFar.f x196000 x196001 ((rd_T34 x41 x43).f0) ((rd_T34 x41 x43).f1)).bind fun t202 => ((spec_bdFar.f x192000 x192001 x193000 x193001).bind fun t203 => (if t202 > t203 then (spec_FarthestApart.l1 k x6 x31 x32 x33 x41 x42 (wrap64 (x43 + 1)) x196000 x196001 ((rd_T34 x41 x43).f0) ((rd_T34 x41 x43).f1) x196000 x196001) else (spec_FarthestApart.l1 k x6 x31 x32 x33 x41 x42 (wrap64 (x43 + 1)) x192000 x192001 x193000 x193001 x196000 x196001)))) else (none)) else (none)) else (spec_FarthestApart.l0 k x6 x31 x32 (wrap64 (x33 + 1)) x192000 x192001 x193000 x193001)
end
def spec_FarthestApart.f (k : Nat) (l0 : List (S34)) : Option (Int × Int × Int × Int × Int × Bool) := (spec_bdGood.f k l0).bind fun t185 => (if t185 = true then (spec_FarthestApart.j0 k l0 (decide ((l0.length : Int) < 2))) else (spec_FarthestApart.j0 k l0 true))
theorem spec_FarthestApart.mono_l : ∀ k, (∀ y0 y1, LeO (spec_FarthestApart.j0 k y0 y1) (spec_FarthestApart.j0 (k + 1) y0 y1)) ∧ (∀ y0 y1 y2 y3 y4 y5 y6 y7, LeO (spec_FarthestApart.l0 k y0 y1 y2 y3 y4 y5 y6 y7) (spec_FarthestApart.l0 (k + 1) y0 y1 y2 y3 y4 y5 y6 y7)) ∧ (∀ y0 y1 y2 y3 y4 y5 y6 y7 y8 y9 y10 y11 y12, LeO (spec_FarthestApart.l1 k y0 y1 y2 y3 y4 y5 y6 y7 y8 y9 y10 y11 y12) (spec_FarthestApart.l1 (k + 1) y0 y1 y2 y3 y4 y5 y6 y7 y8 y9 y10 y11 y12))
  | 0 => ⟨fun _ _ r h => by simp [spec_FarthestApart.j0] at h, fun _ _ _ _ _ _ _ _ r h => by simp [spec_FarthestApart.l0] at h, fun _ _ _ _ _ _ _ _ _ _ _ _ _ r h => by simp [spec_FarthestApart.l1] at h⟩
  | k + 1 => by
    obtain ⟨ih0, ih1, ih2⟩ := spec_FarthestApart.mono_l k
    refine ⟨?_, ?_, ?_⟩
    · intro y0 y1
      unfold spec_FarthestApart.j0
      repeat' first
      | (with_reducible exact ih0 _ _)
      | (with_reducible exact ih1 _ _ _ _ _ _ _ _)
      | (with_reducible exact ih2 _ _ _ _ _ _ _ _ _ _ _ _ _)
      | (with_reducible exact spec_bdGood.mono _ _)
      | (with_reducible exact spec_bdSorted.mono _ _)
      | (with_reducible exact LeO.refl _)
      | (with_reducible exact LeO.none _)
      | (with_reducible refine LeO.ite ?_ ?_)
      | (with_reducible refine LeO.bind ?_ (fun _ => ?_))
      | exact ih0 _ _
      | exact ih1 _ _ _ _ _ _ _ _
      | exact ih2 _ _ _ _ _ _ _ _ _ _ _ _ _
      | exact spec_bdGood.mono _ _
      | exact spec_bdSorted.mono _ _
      | exact LeO.none _
      | refine LeO.ite ?_ ?_
      | refine LeO.bind ?_ (fun _ => ?_)
    · intro y0 y1 y2 y3 y4 y5 y6 y7
      unfold spec_FarthestApart.l0
      repeat' first
      | (with_reducible exact ih0 _ _)
      | (with_reducible exact ih1 _ _ _ _ _ _ _ _)
      | (with_reducible exact ih2 _ _ _ _ _ _ _ _ _ _ _ _ _)
      | (with_reducible exact spec_bdGood.mono _ _)
      | (with_reducible exact spec_bdSorted.mono _ _)
      | (with_reducible exact LeO.refl _)
      | (with_reducible exact LeO.none _)
      | (with_reducible refine LeO.ite ?_ ?_)
      | (with_reducible refine LeO.bind ?_ (fun _ => ?_))
      | exact ih0 _ _
      | exact ih1 _ _ _ _ _ _ _ _
      | exact ih2 _ _ _ _ _ _ _ _ _ _ _ _ _
      | exact spec_bdGood.mono _ _
      | exact spec_bdSorted.mono _ _
      | exact LeO.none _
      | refine LeO.ite ?_ ?_
      | refine LeO.bind ?_ (fun _ => ?_)
    · intro y0 y1 y2 y3 y4 y5 y6 y7 y8 y9 y10 y11 y12
      unfold spec_FarthestApart.l1
      repeat' first
      | (with_reducible exact ih0 _ _)
      | (with_reducible exact ih1 _ _ _ _ _ _ _ _)
      | (with_reducible exact ih2 _ _ _ _ _ _ _ _ _ _ _ _ _)
      | (with_reducible exact spec_bdGood.mono _ _)
      | (with_reducible exact spec_bdSorted.mono _ _)
      | (with_reducible exact LeO.refl _)
      | (with_reducible exact LeO.none _)
      | (with_reducible refine LeO.ite ?_ ?_)
      | (with_reducible refine LeO.bind ?_ (fun _ => ?_))
      | exact ih0 _ _
      | exact ih1 _ _ _ _ _ _ _ _
      | exact ih2 _ _ _ _ _ _ _ _ _ _ _ _ _
      | exact spec_bdGood.mono _ _
      | exact spec_bdSorted.mono _ _
      | exact LeO.none _
      | refine LeO.ite ?_ ?_
      | refine LeO.bind ?_ (fun _ => ?_)
theorem spec_FarthestApart.mono : ∀ a0 k, LeO (spec_FarthestApart.f k a0) (spec_FarthestApart.f (k + 1) a0) := by
  intro a0 k
  obtain ⟨ih0, ih1, ih2⟩ := spec_FarthestApart.mono_l k
  unfold spec_FarthestApart.f
  repeat' first
      | (with_reducible exact ih0 _ _)
      | (with_reducible exact ih1 _ _ _ _ _ _ _ _)
      | (with_reducible exact ih2 _ _ _ _ _ _ _ _ _ _ _ _ _)
      | (with_reducible exact spec_bdGood.mono _ _)
      | (with_reducible exact spec_bdSorted.mono _ _)
      | (with_reducible exact LeO.refl _)
      | (with_reducible exact LeO.none _)
      | (with_reducible refine LeO.ite ?_ ?_)
      | (with_reducible refine LeO.bind ?_ (fun _ => ?_))
      | exact ih0 _ _
      | exact ih1 _ _ _ _ _ _ _ _
      | exact ih2 _ _ _ _ _ _ _ _ _ _ _ _ _
      | exact spec_bdGood.mono _ _
      | exact spec_bdSorted.mono _ _
      | exact LeO.none _
      | refine LeO.ite ?_ ?_
      | refine LeO.bind ?_ (fun _ => ?_)
def spec_FarthestApart.T4 : Bool × List (List Nat × List Nat) := (true, [([], []), ([0], [0]), ([1], [1]), ([], []), ([3], [3]), ([4], [4]), ([], []), ([], []), ([6, 2, 0, 1, 2, 6, 7], [2, 6]), ([7, 5, 8, 0, 1, 2, 3, 4, 5, 6, 7, 8], [5, 7])])
def spec_FarthestApart.B4 : List Nat := [0, 1, 3, 0, 8, 24, 0, 0, 199, 511]
theorem spec_FarthestApart.tab4 : rtab .any (opsOf Try.f24 4) = spec_FarthestApart.T4 := by kernel_rfl
theorem spec_FarthestApart.bits4 : waitsOk spec_FarthestApart.T4.2 spec_FarthestApart.B4 = true := by kernel_rfl
def spec_FarthestApart.T16 : Bool × List (List Nat × List Nat) := (true, [([], []), ([], []), ([], []), ([], []), ([2, 3], [2, 3]), ([0, 4, 0], [0]), ([1, 5, 0, 1, 5], [1]), ([4, 6, 0, 1, 2, 3, 4, 5, 6], [4]), ([7, 0, 1, 2, 3, 4, 5, 6, 7], [])])
def spec_FarthestApart.B16 : List Nat := [0, 0, 0, 0, 12, 29, 63, 127, 255]
theorem spec_FarthestApart.tab16 : rtab .any (opsOf Try.f24 16) = spec_FarthestApart.T16 := by kernel_rfl
theorem spec_FarthestApart.bits16 : waitsOk spec_FarthestApart.T16.2 spec_FarthestApart.B16 = true := by kernel_rfl
set_option maxHeartbeats 8000000 in
set_option maxRecDepth 100000 in
theorem spec_FarthestApart.calls (k : Nat) (A0 : Option Addr) (c0 : Nat) (l0 : List (S34)) (r1 : Int) (r2 : Int) (r3 : Int) (r4 : Int) (r5 : Int) (r6 : Bool) (w : World) (hr0 : Kd.C k34 w A0 l0.length l0) (hc0 : l0.length ≤ c0) (h : spec_FarthestApart.f k l0 = some (r1, r2, r3, r4, r5, r6)) :
    Calls Try.prog 24 #[.slice A0 l0.length c0] w fun e w' => e = .returned (.tuple #[.agg #[.int .i64 r1, .int .i64 r2], .agg #[.int .i64 r3, .int .i64 r4], .int .i64 r5, .bool r6]) ∧ Below w.heap.size w w' := by
  have hu34 := Try.underlying34
  have HR0 := Aside0.mk hr0
  have HC0 := Aside0.mk hc0
  clear hr0 hc0
  have HB := Aside0.mk (Below.refl w.heap.size w)
  have H : ((spec_bdGood.f k l0).bind fun t185 => (if t185 = true then (spec_FarthestApart.j0 k l0 (decide ((l0.length : Int) < 2))) else (spec_FarthestApart.j0 k l0 true))) = some (r1, r2, r3, r4, r5, r6) := h
  clear h
  have HC2 := Aside0.mk H
  clear H
  go_enter Try.func24, Try.ntmps24
  go_upto_region 1 with (first | ((with_reducible refine gate_dst (N := 2) rfl ?_); (try (refine gate_guard (by rfl) ?_; dsimp only)); refine box_event ?hg (N := 2) ?hd (cs := #[.int .i64 0, .int .i64 0]) (t := 34) ?hr ?_; (case hd => rfl); (case hg => rfl); (case hr => first | (go_simp; done) | (go_simp; rfl)); intro gb183 hg w3 hbox hb; have n0_ := Aside0.mk (below_step (hb_) hb); have n1_ := Aside0.mk (hbox); have n2_ := Aside0.mk ((by rw [hg]; exact (below_size (hb_)) : w.heap.size ≤ gb183)); have n3_ := Aside0.mk ((by rw [hg]; exact (below_size (hb_)) : w.heap.size ≤ gb183)); clear HB; have HB := n0_; have BK183 := n1_; have GW183 := n2_; have GE183 := n3_; clear n0_ n1_ n2_ n3_; clear hb hbox hg) | ((with_reducible refine gate_dst (N := 3) rfl ?_); (try (refine gate_guard (by rfl) ?_; dsimp only)); refine box_event ?hg (N := 3) ?hd (cs := #[.int .i64 0, .int .i64 0]) (t := 34) ?hr ?_; (case hd => rfl); (case hg => rfl); (case hr => first | (go_simp; done) | (go_simp; rfl)); intro gb184 hg w4 hbox hb; have n0_ := bb_ BK183 hb; have n1_ := Aside0.mk (below_step (hbg_) hb); have n2_ := Aside0.mk (hbox); have n3_ := Aside0.mk ((by rw [hg]; exact (below_size (hbg_)) : w.heap.size ≤ gb184)); have n4_ := Aside0.mk ((by rw [hg]; exact (below_size (hbg_)) : w.heap.size ≤ gb184)); have n5_ := Aside0.mk ((by rw [hg]; exact Nat.ne_of_lt (blk_lt (bk_ BK183.out)) : gb183 ≠ gb184)); have n6_ := Aside0.mk ((by rw [hg]; exact Nat.ne_of_gt (blk_lt (bk_ BK183.out)) : gb184 ≠ gb183)); clear BK183; clear HB; have BK183 := n0_; have HB := n1_; have BK184 := n2_; have GW184 := n3_; have GE184 := n4_; have NB183_184 := n5_; have NB184_183 := n6_; clear n0_ n1_ n2_ n3_ n4_ n5_ n6_; clear hb hbox hg))
  (try simp only [Act.put, List.setIfInBounds_toArray, List.set_cons_zero, List.set_cons_succ])
  go_cut [20] (fun v20 wc => ∃ (kq : Nat) (x20_1 : Bool), v20 = .bool x20_1 ∧ Aside0 (spec_FarthestApart.j0 kq l0 x20_1 = some (r1, r2, r3, r4, r5, r6)) ∧ Aside0 (kq ≤ k) ∧ Aside0 (wc.heap[gb183]? = some (.cells #[.int .i64 0, .int .i64 0] 34 (0, 0))) ∧ Aside0 (wc.heap[gb184]? = some (.cells #[.int .i64 0, .int .i64 0] 34 (0, 0))) ∧ Aside0 (Below w.heap.size w wc))
  case first =>
    have H := HC2.out
    clear HC2
    replace H := Option.bind_eq_some_iff.mp H
    obtain ⟨t185, A50, H⟩ := H
    replace H : (if t185 = true then (spec_FarthestApart.j0 k l0 (decide ((l0.length : Int) < 2))) else (spec_FarthestApart.j0 k l0 true)) = some (r1, r2, r3, r4, r5, r6) := H
    have A5 := Aside0.mk A50
    clear A50
    by_cases c6 : t185 = true
    · subst c6
      have H1 : (spec_FarthestApart.j0 k l0 (decide ((l0.length : Int) < 2))) = some (r1, r2, r3, r4, r5, r6) := by rw [if_pos rfl] at H; exact H
      clear H
      have H := H1
      clear H1
      have H' := Aside0.mk H
      clear H
      go_wp2_with (first | ((with_reducible refine gate_callee (f := 46) rfl ?_); refine goesL_ (some 14) rfl rfl Try.func46 (by kernel_rfl) rfl #[.slice A0 l0.length c0] rfl ga_ ?_; (with_reducible refine (spec_bdGood.calls k _ _ l0 true _ ?side1 ?side2 A5.out).mono ?_); (case side1 => repeat (first | exact (Kd.C_below HR0.out HB.out) | (with_reducible refine Kd.C_alloc ?_ _) | (with_reducible refine Kd.C_drewN ?_ _) | (with_reducible refine Kd.C_drew ?_))); (case side2 => exact HC0.out); rintro e w7 ⟨rfl, hb⟩; refine ⟨_, rfl, ?_⟩; have n0_ := bb_ BK183 hb; have n1_ := bb_ BK184 hb; have n2_ := Aside0.mk (below_step (hbg_) hb); clear BK183; clear BK184; clear HB; have BK183 := n0_; have BK184 := n1_; have HB := n2_; clear n0_ n1_ n2_; (try clear hb); (try clear hb2); (try clear hk); (try clear hi)))
      go_meet
      case rel => exact ⟨_, (decide ((l0.length : Int) < 2)), (by first | rfl | (simp; done) | (simp [*]; done)), H', ⟨by first | omega | exact Nat.le_refl _⟩, ⟨bk_ BK183.out⟩, ⟨bk_ BK184.out⟩, ⟨hbg_⟩⟩
    · replace c6 := Bool.eq_false_iff.mpr c6
      subst c6
      have H1 : (spec_FarthestApart.j0 k l0 true) = some (r1, r2, r3, r4, r5, r6) := by rw [if_neg (show ¬ (false = true) by decide)] at H; exact H
      clear H
      have H := H1
      clear H1
      have H' := Aside0.mk H
      clear H
      go_wp2_with (first | ((with_reducible refine gate_callee (f := 46) rfl ?_); refine goesL_ (some 14) rfl rfl Try.func46 (by kernel_rfl) rfl #[.slice A0 l0.length c0] rfl ga_ ?_; (with_reducible refine (spec_bdGood.calls k _ _ l0 false _ ?side1 ?side2 A5.out).mono ?_); (case side1 => repeat (first | exact (Kd.C_below HR0.out HB.out) | (with_reducible refine Kd.C_alloc ?_ _) | (with_reducible refine Kd.C_drewN ?_ _) | (with_reducible refine Kd.C_drew ?_))); (case side2 => exact HC0.out); rintro e w8 ⟨rfl, hb⟩; refine ⟨_, rfl, ?_⟩; have n0_ := bb_ BK183 hb; have n1_ := bb_ BK184 hb; have n2_ := Aside0.mk (below_step (hbg_) hb); clear BK183; clear BK184; clear HB; have BK183 := n0_; have BK184 := n1_; have HB := n2_; clear n0_ n1_ n2_; (try clear hb); (try clear hb2); (try clear hk); (try clear hi)))
      go_meet
      case rel => exact ⟨_, (true), (by first | rfl | (simp; done) | (simp [*]; done)), H', ⟨by first | omega | exact Nat.le_refl _⟩, ⟨bk_ BK183.out⟩, ⟨bk_ BK184.out⟩, ⟨hbg_⟩⟩
  case rest =>
    clear HC2
    try clear c2
    try clear p2
    try clear c4
    try clear c6
    obtain ⟨kq, x20_1, rfl, HA, HJ1, BK183, BK184, HB⟩ := hcut
    cases kq with
    | zero => exact absurd HA.out (by simp [spec_FarthestApart.j0])
    | succ kj1 =>
      have H := HA.out
      clear HA
      simp only [spec_FarthestApart.j0] at H
      by_cases c9 : x20_1 = true
      · subst c9
        have H1 : (some (0, 0, 0, 0, 0, false)) = some (r1, r2, r3, r4, r5, r6) := by rw [if_pos rfl] at H; exact H
        clear H
        have H := H1
        clear H1
        simp only [Option.some.injEq, Prod.mk.injEq] at H
        obtain ⟨rfl, rfl, rfl, rfl, rfl, rfl⟩ := H
        have hnb10 := NB183_184.out
        have hnc10 := NB184_183.out
        have hcz11_0 : wc.cell? ⟨gb183, 0, none⟩ = some (.int .i64 0) := (blk_cell BK183.out 0).trans rfl
        have hcz11_1 : wc.cell? ⟨gb183, 1, none⟩ = some (.int .i64 0) := (blk_cell BK183.out 1).trans rfl
        have hfz11_0 := blk_frozen BK183.out 0
        have hfz11_1 := blk_frozen BK183.out 1
        have hcz12_0 : wc.cell? ⟨gb184, 0, none⟩ = some (.int .i64 0) := (blk_cell BK184.out 0).trans rfl
        have hcz12_1 : wc.cell? ⟨gb184, 1, none⟩ = some (.int .i64 0) := (blk_cell BK184.out 1).trans rfl
        have hfz12_0 := blk_frozen BK184.out 0
        have hfz12_1 := blk_frozen BK184.out 1
        go_wp2
        refine bodyPost_ret (results_list (rs := [.cell 2 34, .cell 3 34, .tmp 4, .tmp 5]) rfl (by simp) (.cell gb183 34 #[.int .i64 0, .int .i64 0] (0, 0) _ rfl (by (with_reducible repeat (first | refine blk_drewN ?_ _ | refine blk_drew ?_ | refine blk_alloc ?_ _)); refine blk_far ?_ NB183_184.out _; (with_reducible repeat (first | refine blk_drewN ?_ _ | refine blk_drew ?_ | refine blk_alloc ?_ _)); refine blk_far ?_ NB183_184.out _; (with_reducible repeat (first | refine blk_drewN ?_ _ | refine blk_drew ?_ | refine blk_alloc ?_ _)); refine blk_put (cs := #[.int .i64 0, .int .i64 0]) ?_ 1 _ rfl; (with_reducible repeat (first | refine blk_drewN ?_ _ | refine blk_drew ?_ | refine blk_alloc ?_ _)); refine blk_put (cs := #[.int .i64 0, .int .i64 0]) ?_ 0 _ rfl; (with_reducible repeat (first | refine blk_drewN ?_ _ | refine blk_drew ?_ | refine blk_alloc ?_ _)); exact BK183.out) Try.underlying34 rfl (by kernel_rfl) (.cell gb184 34 #[.int .i64 0, .int .i64 0] (0, 0) _ rfl (by (with_reducible repeat (first | refine blk_drewN ?_ _ | refine blk_drew ?_ | refine blk_alloc ?_ _)); refine blk_put (cs := #[.int .i64 0, .int .i64 0]) ?_ 1 _ rfl; (with_reducible repeat (first | refine blk_drewN ?_ _ | refine blk_drew ?_ | refine blk_alloc ?_ _)); refine blk_put (cs := #[.int .i64 0, .int .i64 0]) ?_ 0 _ rfl; (with_reducible repeat (first | refine blk_drewN ?_ _ | refine blk_drew ?_ | refine blk_alloc ?_ _)); refine blk_far ?_ NB184_183.out _; (with_reducible repeat (first | refine blk_drewN ?_ _ | refine blk_drew ?_ | refine blk_alloc ?_ _)); refine blk_far ?_ NB184_183.out _; (with_reducible repeat (first | refine blk_drewN ?_ _ | refine blk_drew ?_ | refine blk_alloc ?_ _)); exact BK184.out) Try.underlying34 rfl (by kernel_rfl) (.tmp (.tmp .nil))))) rfl ?_
        exact ⟨by first | rfl | (simp [errW_none, errW_some] <;> rfl) | (simp [*, errW_none, errW_some] <;> rfl), hbg_⟩
      · replace c9 := Bool.eq_false_iff.mpr c9
        subst c9
        have H1 : ((spec_bdSorted.f kj1 l0).bind fun t186 => (if 0 < (t186.length : Int) then (if 1 < (t186.length : Int) then (spec_FarthestApart.l0 kj1 t186 t186 (t186.length : Int) 0 ((rd_T34 t186 0).f0) ((rd_T34 t186 0).f1) ((rd_T34 t186 1).f0) ((rd_T34 t186 1).f1)) else (none)) else (none))) = some (r1, r2, r3, r4, r5, r6) := by rw [if_neg (show ¬ (false = true) by decide)] at H; exact H
        clear H
        have H := H1
        clear H1
        replace H := Option.bind_eq_some_iff.mp H
        obtain ⟨t186, A130, H⟩ := H
        replace H : (if 0 < (t186.length : Int) then (if 1 < (t186.length : Int) then (spec_FarthestApart.l0 kj1 t186 t186 (t186.length : Int) 0 ((rd_T34 t186 0).f0) ((rd_T34 t186 0).f1) ((rd_T34 t186 1).f0) ((rd_T34 t186 1).f1)) else (none)) else (none)) = some (r1, r2, r3, r4, r5, r6) := H
        have A13 := Aside0.mk A130
        clear A130
        by_cases c14 : 0 < (t186.length : Int)
        · rw [if_pos c14] at H
          have c14b0 : decide (0 < (t186.length : Int)) = true := decide_eq_true c14
          have c14b1 : decide (0 < t186.length) = true := decide_eq_true (by omega)
          clear c14
          by_cases c15 : 1 < (t186.length : Int)
          · rw [if_pos c15] at H
            have c15b0 : decide (1 < (t186.length : Int)) = true := decide_eq_true c15
            have c15b1 : decide (1 < t186.length) = true := decide_eq_true (by omega)
            clear c15
            have H' := Aside0.mk H
            clear H
            try go_wp2_with (first | ((with_reducible refine gate_callee (f := 59) rfl ?_); refine goesL_ (some 24) rfl rfl Try.func59 (by kernel_rfl) rfl #[.slice A0 l0.length c0] rfl ga_ ?_; (with_reducible refine (spec_bdSorted.calls kj1 _ _ l0 t186 _ ?side1 ?side2 A13.out).mono ?_); (case side1 => repeat (first | exact (Kd.C_below HR0.out HB.out) | (with_reducible refine Kd.C_alloc ?_ _) | (with_reducible refine Kd.C_drewN ?_ _) | (with_reducible refine Kd.C_drew ?_))); (case side2 => exact HC0.out); rintro e w16 ⟨v187, rfl, ho0, hb⟩; refine ⟨_, rfl, ?_⟩; have n0_ := Aside0.mk (Kd.R_lower (Kd.R_newB (Kd.R_newB ho0 (g := gb183) (o := .cells #[.int .i64 0, .int .i64 0] 34 (0, 0)) (bk_ BK183.out)) (g := gb184) (o := .cells #[.int .i64 0, .int .i64 0] 34 (0, 0)) (bk_ BK184.out)) (below_size (hbg_))); have n1_ := bb_ BK183 hb; have n2_ := bb_ BK184 hb; have n3_ := Aside0.mk (below_step (hbg_) hb); clear BK183; clear BK184; clear HB; have HO188 := n0_; have BK183 := n1_; have BK184 := n2_; have HB := n3_; clear n0_ n1_ n2_ n3_; (try clear hb); (try clear hb2); (try clear hk); (try clear hi); (try clear ho0)))
            have n0_ := Aside0.mk (Kd.R_drew HO188.out)
            have n1_ := Aside0.mk (blk_drew BK183.out)
            have n2_ := Aside0.mk (blk_drew BK184.out)
            have n3_ := Aside0.mk (below_drew1 HB.out)
            clear HO188
            clear BK183
            clear BK184
            clear HB
            have HO188 := n0_
            have BK183 := n1_
            have BK184 := n2_
            have HB := n3_
            clear n0_ n1_ n2_ n3_
            obtain ⟨Ao18, co18, eo18⟩ := Kd.R_slice HO188.out
            (first | subst eo18 | (injection eo18 with f1_ f2_ f3_; have f4_ := f1_.symm; have f5_ := f3_.symm; clear f1_ f2_ f3_; subst f4_; subst f5_))
            have p189 : 0 ≤ (0 : Int) := (by omega)
            have q189 : 0 < (t186.length : Int) := odt_
            obtain ⟨ad189, e189, hx189_0, hx189_1⟩ := at_T34 (Kd.R_reads' HO188.out).2.2 0 p189 q189
            cases e189
            have qi189 : (0 < t186.length) = True := eq_true (by omega)
            (try rw [show ((0 : Int)).toNat = 0 from rfl] at hx189_0)
            (try rw [show 0 * 2 = 0 from rfl] at hx189_0)
            (try rw [Addr.add_zero'] at hx189_0)
            (try rw [show ((0 : Int)).toNat = 0 from rfl] at hx189_1)
            (try rw [show 0 * 2 = 0 from rfl] at hx189_1)
            (try rw [Addr.add_zero'] at hx189_1)
            replace p189 := eq_true p189
            replace q189 := eq_true q189
            have p190 : 0 ≤ (1 : Int) := (by omega)
            have q190 : 1 < (t186.length : Int) := odt_
            obtain ⟨ad190, e190, hx190_0, hx190_1⟩ := at_T34 (Kd.R_reads' HO188.out).2.2 1 p190 q190
            obtain rfl : ad189 = ad190 := (by injection e190)
            (try simp only [show (1 : Int).toNat = 1 from rfl, Nat.reduceMul, Nat.reduceEqDiff, Go.Addr.add, ↓reduceIte] at hx190_0)
            (try simp only [show (1 : Int).toNat = 1 from rfl, Nat.reduceMul, Nat.reduceEqDiff, Go.Addr.add, ↓reduceIte] at hx190_1)
            have qi190 : (1 < t186.length) = True := eq_true (by omega)
            (try rw [show ((1 : Int)).toNat = 1 from rfl] at hx190_0)
            (try rw [show 1 * 2 = 2 from rfl] at hx190_0)
            (try rw [show ((1 : Int)).toNat = 1 from rfl] at hx190_1)
            (try rw [show 1 * 2 = 2 from rfl] at hx190_1)
            replace p190 := eq_true p190
            replace q190 := eq_true q190
            refine start_ (n := 10) (S := fun w' => w'.cell? ad189 = some (.int .i64 ((rd_T34 t186 0).f0)) ∧ w'.cell? ⟨ad189.block, ad189.off + 1, none⟩ = some (.int .i64 ((rd_T34 t186 0).f1)) ∧ w'.cell? ⟨ad189.block, ad189.off + 2, none⟩ = some (.int .i64 ((rd_T34 t186 1).f0)) ∧ w'.cell? ⟨ad189.block, ad189.off + 2 + 1, none⟩ = some (.int .i64 ((rd_T34 t186 1).f1))) (ds := []) #[false, false, false, false, false, false, false, false, false, false] (by kernel_rfl) rfl rfl ⟨hx189_0, hx189_1, hx190_0, hx190_1⟩ (fun hHeld => ?_); refine with_tabW spec_FarthestApart.tab4 spec_FarthestApart.bits4 (fun HT_ HW_ => ?_)
            generalize w16.drew = w17 at HO188 BK183 BK184 HB hx189_0 hx189_1 hx190_0 hx190_1 hHeld ⊢
            refine pure_ (i := 0) (N := some 25) (v := ?_) (a' := ?_) #[true, false, false, false, false, false, false, false, false, false] rfl rfl (any_of HT_.out (by kernel_rfl)) (fun _ _ _ h => h) (Or.inl ⟨by rfl, ?_⟩) ?_ ?_
            rotate_left
            · intro w'
              go_simp
              with_reducible rfl
            rotate_left
            · simp only [Act.put, sA, sB, sC, i64_w, i32_w]
              rfl
            refine pure_ (i := 1) (N := some 26) (v := ?_) (a' := ?_) #[true, true, false, false, false, false, false, false, false, false] rfl rfl (any_of HT_.out (by kernel_rfl)) (fun _ _ _ h => h) (Or.inl ⟨by rfl, ?_⟩) ?_ ?_
            rotate_left
            · intro w'
              go_simp
              with_reducible rfl
            rotate_left
            · simp only [Act.put, sA, sB, sC, i64_w, i32_w]
              rfl
            refine pure_ (i := 3) (N := some 28) (v := ?_) (a' := ?_) #[true, true, false, true, false, false, false, false, false, false] rfl rfl (any_of HT_.out (by kernel_rfl)) (fun _ _ _ h => h) (Or.inl ⟨by rfl, ?_⟩) ?_ ?_
            rotate_left
            · intro w'
              go_simp
              with_reducible rfl
            rotate_left
            · simp only [Act.put, sA, sB, sC, i64_w, i32_w]
              rfl
            refine pure_ (i := 4) (N := some 29) (v := ?_) (a' := ?_) #[true, true, false, true, true, false, false, false, false, false] rfl rfl (any_of HT_.out (by kernel_rfl)) (fun _ _ _ h => h) (Or.inl ⟨by rfl, ?_⟩) ?_ ?_
            rotate_left
            · intro w'
              go_simp
              with_reducible rfl
            rotate_left
            · simp only [Act.put, sA, sB, sC, i64_w, i32_w]
              rfl
            refine take_ (i := 2) (N := some 27) (v := ?_) (a' := ?_) #[true, true, true, true, true, false, false, false, false, false] rfl rfl (take_ofW HT_.out HW_.out (by kernel_rfl)) (fun _ _ _ h => h) (Or.inl ⟨by rfl, ?_⟩) hHeld ?_ ?_
            rotate_left
            · rintro w' ⟨s0, s1, s2, s3⟩
              go_simp
              with_reducible rfl
            rotate_left
            · simp only [Act.put, sA, sB, sC, i64_w, i32_w]
              rfl
            refine take_ (i := 5) (N := some 30) (v := ?_) (a' := ?_) #[true, true, true, true, true, true, false, false, false, false] rfl rfl (take_ofW HT_.out HW_.out (by kernel_rfl)) (fun _ _ _ h => h) (Or.inl ⟨by rfl, ?_⟩) hHeld ?_ ?_
            rotate_left
            · rintro w' ⟨s0, s1, s2, s3⟩
              go_simp
              with_reducible rfl
            rotate_left
            · simp only [Act.put, sA, sB, sC, i64_w, i32_w]
              rfl
            refine join_ (σ := Nat × Nat) 2 #[true, true, true, true, true, true, true, true, false, false] (fun s_ => [(7, .pointer (some ⟨s_.1, 0, none⟩)), (8, .pointer (some ⟨s_.2, 0, none⟩))]) (fun s_ w' => (w'.cell? ad189 = some (.int .i64 ((rd_T34 t186 0).f0)) ∧ w'.cell? ⟨ad189.block, ad189.off + 1, none⟩ = some (.int .i64 ((rd_T34 t186 0).f1)) ∧ w'.cell? ⟨ad189.block, ad189.off + 2, none⟩ = some (.int .i64 ((rd_T34 t186 1).f0)) ∧ w'.cell? ⟨ad189.block, ad189.off + 2 + 1, none⟩ = some (.int .i64 ((rd_T34 t186 1).f1))) ∧ (Kd.R k34 34 w' w.heap.size (fun k_ => k_ ≠ gb183 ∧ k_ ≠ gb184 ∧ k_ ≠ s_.1 ∧ k_ ≠ s_.2) (.slice (some ad189) t186.length co18) t186) ∧ (w'.heap[gb183]? = some (.cells #[.int .i64 0, .int .i64 0] 34 (0, 0))) ∧ (w'.heap[gb184]? = some (.cells #[.int .i64 0, .int .i64 0] 34 (0, 0))) ∧ (w'.heap[s_.1]? = some (.cells #[.int .i64 0, .int .i64 0] 34 (0, 0))) ∧ (w'.heap[s_.2]? = some (.cells #[.int .i64 0, .int .i64 0] 34 (0, 0))) ∧ (w.heap.size ≤ s_.1) ∧ (w.heap.size ≤ s_.1) ∧ (gb183 ≠ s_.1) ∧ (s_.1 ≠ gb183) ∧ (gb184 ≠ s_.1) ∧ (s_.1 ≠ gb184) ∧ (s_.2 ≠ s_.1) ∧ (s_.1 ≠ s_.2) ∧ (w.heap.size ≤ s_.2) ∧ (w.heap.size ≤ s_.2) ∧ (gb183 ≠ s_.2) ∧ (s_.2 ≠ gb183) ∧ (gb184 ≠ s_.2) ∧ (s_.2 ≠ gb184) ∧ (Below w.heap.size w w')) ?_ ?_
            rotate_left
            · intro hCont
              refine two_ (i := 6) (j := 7) (Ni := some 7) (Nj := some 8) #[true, true, true, true, true, true, true, false, false, false] #[true, true, true, true, true, true, false, true, false, false] rfl rfl rfl rfl (two_of HT_.out (by kernel_rfl)) (by decide) (by decide) (fun K hK => ?_) (fun K hK => ?_)
              · skip
                refine box_step ?hg (N := 7) ?hd (cs := #[.int .i64 0, .int .i64 0]) (t := 34) ?hr ?_; (case hd => rfl); (case hg => rfl); (case hr => first | (go_simp; done) | (go_simp; rfl))
                intro gb191 hg w19 hbox hb
                have HS0_ := (hb.cell (World.block_lt_of_cell? _ _ (hHeld.1))).trans (hHeld.1)
                have HS1_ := (hb.cell (World.block_lt_of_cell? _ _ (hHeld.2.1))).trans (hHeld.2.1)
                have HS2_ := (hb.cell (World.block_lt_of_cell? _ _ (hHeld.2.2.1))).trans (hHeld.2.2.1)
                have HS3_ := (hb.cell (World.block_lt_of_cell? _ _ (hHeld.2.2.2))).trans (hHeld.2.2.2)
                have n0_ := Aside0.mk (Kd.R_below (Kd.R_elderB (rk_ HO188.out) gb191 (Nat.le_of_eq hg.symm)) hb)
                have n1_ := bb_ BK183 hb
                have n2_ := bb_ BK184 hb
                have n3_ := Aside0.mk (below_step (hbg_) hb)
                have n4_ := Aside0.mk (hbox)
                have n5_ := Aside0.mk ((by rw [hg]; exact (below_size (hbg_)) : w.heap.size ≤ gb191))
                have n6_ := Aside0.mk ((by rw [hg]; exact (below_size (hbg_)) : w.heap.size ≤ gb191))
                have n7_ := Aside0.mk ((by rw [hg]; exact Nat.ne_of_lt (blk_lt (bk_ BK183.out)) : gb183 ≠ gb191))
                have n8_ := Aside0.mk ((by rw [hg]; exact Nat.ne_of_gt (blk_lt (bk_ BK183.out)) : gb191 ≠ gb183))
                have n9_ := Aside0.mk ((by rw [hg]; exact Nat.ne_of_lt (blk_lt (bk_ BK184.out)) : gb184 ≠ gb191))
                have n10_ := Aside0.mk ((by rw [hg]; exact Nat.ne_of_gt (blk_lt (bk_ BK184.out)) : gb191 ≠ gb184))
                clear HO188
                clear BK183
                clear BK184
                clear HB
                have HO188 := n0_
                have BK183 := n1_
                have BK184 := n2_
                have HB := n3_
                have BK191 := n4_
                have GW191 := n5_
                have GE191 := n6_
                have NB183_191 := n7_
                have NB191_183 := n8_
                have NB184_191 := n9_
                have NB191_184 := n10_
                clear n0_ n1_ n2_ n3_ n4_ n5_ n6_ n7_ n8_ n9_ n10_
                clear hb hbox hg
                refine hK.out _ _ ⟨HS0_, HS1_, HS2_, HS3_⟩ (fun hHeld => ?_)
                clear hK K
                refine norm_ (a' := ?_) ?_ ?_
                rotate_left
                · show Act.put _ (some 7) _ = _
                  simp only [Act.put, sA, sB, sC, i64_w, i32_w]
                  rfl
                refine one_ (i := 7) (N := some 8) #[true, true, true, true, true, true, true, true, false, false] rfl rfl (one_of HT_.out (by kernel_rfl)) (by decide) (fun K hK => ?_)
                refine box_step ?hg (N := 8) ?hd (cs := #[.int .i64 0, .int .i64 0]) (t := 34) ?hr ?_; (case hd => rfl); (case hg => rfl); (case hr => first | (go_simp; done) | (go_simp; rfl))
                intro gb192 hg w20 hbox hb
                have HS0_ := (hb.cell (World.block_lt_of_cell? _ _ (hHeld.1))).trans (hHeld.1)
                have HS1_ := (hb.cell (World.block_lt_of_cell? _ _ (hHeld.2.1))).trans (hHeld.2.1)
                have HS2_ := (hb.cell (World.block_lt_of_cell? _ _ (hHeld.2.2.1))).trans (hHeld.2.2.1)
                have HS3_ := (hb.cell (World.block_lt_of_cell? _ _ (hHeld.2.2.2))).trans (hHeld.2.2.2)
                have n0_ := Aside0.mk (Kd.R_below (Kd.R_elderB (rk_ HO188.out) gb192 (Nat.le_of_eq hg.symm)) hb)
                have n1_ := bb_ BK183 hb
                have n2_ := bb_ BK184 hb
                have n3_ := bb_ BK191 hb
                have n4_ := Aside0.mk (below_step (hbg_) hb)
                have n5_ := Aside0.mk (hbox)
                have n6_ := Aside0.mk ((by rw [hg]; exact (below_size (hbg_)) : w.heap.size ≤ gb192))
                have n7_ := Aside0.mk ((by rw [hg]; exact (below_size (hbg_)) : w.heap.size ≤ gb192))
                have n8_ := Aside0.mk ((by rw [hg]; exact Nat.ne_of_lt (blk_lt (bk_ BK183.out)) : gb183 ≠ gb192))
                have n9_ := Aside0.mk ((by rw [hg]; exact Nat.ne_of_gt (blk_lt (bk_ BK183.out)) : gb192 ≠ gb183))
                have n10_ := Aside0.mk ((by rw [hg]; exact Nat.ne_of_lt (blk_lt (bk_ BK184.out)) : gb184 ≠ gb192))
                have n11_ := Aside0.mk ((by rw [hg]; exact Nat.ne_of_gt (blk_lt (bk_ BK184.out)) : gb192 ≠ gb184))
                have n12_ := Aside0.mk ((by rw [hg]; exact Nat.ne_of_lt (blk_lt (bk_ BK191.out)) : gb191 ≠ gb192))
                have n13_ := Aside0.mk ((by rw [hg]; exact Nat.ne_of_gt (blk_lt (bk_ BK191.out)) : gb192 ≠ gb191))
                clear HO188
                clear BK183
                clear BK184
                clear BK191
                clear HB
                have HO188 := n0_
                have BK183 := n1_
                have BK184 := n2_
                have BK191 := n3_
                have HB := n4_
                have BK192 := n5_
                have GW192 := n6_
                have GE192 := n7_
                have NB183_192 := n8_
                have NB192_183 := n9_
                have NB184_192 := n10_
                have NB192_184 := n11_
                have NB191_192 := n12_
                have NB192_191 := n13_
                clear n0_ n1_ n2_ n3_ n4_ n5_ n6_ n7_ n8_ n9_ n10_ n11_ n12_ n13_
                clear hb hbox hg
                refine hK.out _ _ ⟨HS0_, HS1_, HS2_, HS3_⟩ (fun hHeld => ?_)
                clear hK K
                refine norm_ (a' := ?_) ?_ ?_
                rotate_left
                · show Act.put _ (some 8) _ = _
                  simp only [Act.put, sA, sB, sC, i64_w, i32_w]
                  rfl
                exact norm_ (by simp only [putAll, Act.put, List.setIfInBounds_toArray, List.set_cons_zero, List.set_cons_succ]) (hCont (gb191, gb192) _ ⟨hHeld, (by (with_reducible repeat (first | apply Kd.R_alloc | apply Kd.R_drewN | apply Kd.R_drew)); exact Kd.R_mono HO188.out (fun _ hk => ⟨hk.1.1.1.2, ⟨hk.1.1.2, ⟨hk.1.2, hk.2⟩⟩⟩)), (bk_ BK183.out), (bk_ BK184.out), (bk_ BK191.out), (bk_ BK192.out), GW191.out, GE191.out, NB183_191.out, NB191_183.out, NB184_191.out, NB191_184.out, NB192_191.out, NB191_192.out, GW192.out, GE192.out, NB183_192.out, NB192_183.out, NB184_192.out, NB192_184.out, (hbg_)⟩)
              · skip
                refine box_step ?hg (N := 8) ?hd (cs := #[.int .i64 0, .int .i64 0]) (t := 34) ?hr ?_; (case hd => rfl); (case hg => rfl); (case hr => first | (go_simp; done) | (go_simp; rfl))
                intro gb192 hg w19 hbox hb
                have HS0_ := (hb.cell (World.block_lt_of_cell? _ _ (hHeld.1))).trans (hHeld.1)
                have HS1_ := (hb.cell (World.block_lt_of_cell? _ _ (hHeld.2.1))).trans (hHeld.2.1)
                have HS2_ := (hb.cell (World.block_lt_of_cell? _ _ (hHeld.2.2.1))).trans (hHeld.2.2.1)
                have HS3_ := (hb.cell (World.block_lt_of_cell? _ _ (hHeld.2.2.2))).trans (hHeld.2.2.2)
                have n0_ := Aside0.mk (Kd.R_below (Kd.R_elderB (rk_ HO188.out) gb192 (Nat.le_of_eq hg.symm)) hb)
                have n1_ := bb_ BK183 hb
                have n2_ := bb_ BK184 hb
                have n3_ := Aside0.mk (below_step (hbg_) hb)
                have n4_ := Aside0.mk (hbox)
                have n5_ := Aside0.mk ((by rw [hg]; exact (below_size (hbg_)) : w.heap.size ≤ gb192))
                have n6_ := Aside0.mk ((by rw [hg]; exact (below_size (hbg_)) : w.heap.size ≤ gb192))
                have n7_ := Aside0.mk ((by rw [hg]; exact Nat.ne_of_lt (blk_lt (bk_ BK183.out)) : gb183 ≠ gb192))
                have n8_ := Aside0.mk ((by rw [hg]; exact Nat.ne_of_gt (blk_lt (bk_ BK183.out)) : gb192 ≠ gb183))
                have n9_ := Aside0.mk ((by rw [hg]; exact Nat.ne_of_lt (blk_lt (bk_ BK184.out)) : gb184 ≠ gb192))
                have n10_ := Aside0.mk ((by rw [hg]; exact Nat.ne_of_gt (blk_lt (bk_ BK184.out)) : gb192 ≠ gb184))
                clear HO188
                clear BK183
                clear BK184
                clear HB
                have HO188 := n0_
                have BK183 := n1_
                have BK184 := n2_
                have HB := n3_
                have BK192 := n4_
                have GW192 := n5_
                have GE192 := n6_
                have NB183_192 := n7_
                have NB192_183 := n8_
                have NB184_192 := n9_
                have NB192_184 := n10_
                clear n0_ n1_ n2_ n3_ n4_ n5_ n6_ n7_ n8_ n9_ n10_
                clear hb hbox hg
                refine hK.out _ _ ⟨HS0_, HS1_, HS2_, HS3_⟩ (fun hHeld => ?_)
                clear hK K
                refine norm_ (a' := ?_) ?_ ?_
                rotate_left
                · show Act.put _ (some 8) _ = _
                  simp only [Act.put, sA, sB, sC, i64_w, i32_w]
                  rfl
                refine one_ (i := 6) (N := some 7) #[true, true, true, true, true, true, true, true, false, false] rfl rfl (one_of HT_.out (by kernel_rfl)) (by decide) (fun K hK => ?_)
                refine box_step ?hg (N := 7) ?hd (cs := #[.int .i64 0, .int .i64 0]) (t := 34) ?hr ?_; (case hd => rfl); (case hg => rfl); (case hr => first | (go_simp; done) | (go_simp; rfl))
                intro gb191 hg w20 hbox hb
                have HS0_ := (hb.cell (World.block_lt_of_cell? _ _ (hHeld.1))).trans (hHeld.1)
                have HS1_ := (hb.cell (World.block_lt_of_cell? _ _ (hHeld.2.1))).trans (hHeld.2.1)
                have HS2_ := (hb.cell (World.block_lt_of_cell? _ _ (hHeld.2.2.1))).trans (hHeld.2.2.1)
                have HS3_ := (hb.cell (World.block_lt_of_cell? _ _ (hHeld.2.2.2))).trans (hHeld.2.2.2)
                have n0_ := Aside0.mk (Kd.R_below (Kd.R_elderB (rk_ HO188.out) gb191 (Nat.le_of_eq hg.symm)) hb)
                have n1_ := bb_ BK183 hb
                have n2_ := bb_ BK184 hb
                have n3_ := bb_ BK192 hb
                have n4_ := Aside0.mk (below_step (hbg_) hb)
                have n5_ := Aside0.mk (hbox)
                have n6_ := Aside0.mk ((by rw [hg]; exact (below_size (hbg_)) : w.heap.size ≤ gb191))
                have n7_ := Aside0.mk ((by rw [hg]; exact (below_size (hbg_)) : w.heap.size ≤ gb191))
                have n8_ := Aside0.mk ((by rw [hg]; exact Nat.ne_of_lt (blk_lt (bk_ BK183.out)) : gb183 ≠ gb191))
                have n9_ := Aside0.mk ((by rw [hg]; exact Nat.ne_of_gt (blk_lt (bk_ BK183.out)) : gb191 ≠ gb183))
                have n10_ := Aside0.mk ((by rw [hg]; exact Nat.ne_of_lt (blk_lt (bk_ BK184.out)) : gb184 ≠ gb191))
                have n11_ := Aside0.mk ((by rw [hg]; exact Nat.ne_of_gt (blk_lt (bk_ BK184.out)) : gb191 ≠ gb184))
                have n12_ := Aside0.mk ((by rw [hg]; exact Nat.ne_of_lt (blk_lt (bk_ BK192.out)) : gb192 ≠ gb191))
                have n13_ := Aside0.mk ((by rw [hg]; exact Nat.ne_of_gt (blk_lt (bk_ BK192.out)) : gb191 ≠ gb192))
                clear HO188
                clear BK183
                clear BK184
                clear BK192
                clear HB
                have HO188 := n0_
                have BK183 := n1_
                have BK184 := n2_
                have BK192 := n3_
                have HB := n4_
                have BK191 := n5_
                have GW191 := n6_
                have GE191 := n7_
                have NB183_191 := n8_
                have NB191_183 := n9_
                have NB184_191 := n10_
                have NB191_184 := n11_
                have NB192_191 := n12_
                have NB191_192 := n13_
                clear n0_ n1_ n2_ n3_ n4_ n5_ n6_ n7_ n8_ n9_ n10_ n11_ n12_ n13_
                clear hb hbox hg
                refine hK.out _ _ ⟨HS0_, HS1_, HS2_, HS3_⟩ (fun hHeld => ?_)
                clear hK K
                refine norm_ (a' := ?_) ?_ ?_
                rotate_left
                · show Act.put _ (some 7) _ = _
                  simp only [Act.put, sA, sB, sC, i64_w, i32_w]
                  rfl
                exact norm_ (by simp only [putAll, Act.put, List.setIfInBounds_toArray, List.set_cons_zero, List.set_cons_succ]) (hCont (gb191, gb192) _ ⟨hHeld, (by (with_reducible repeat (first | apply Kd.R_alloc | apply Kd.R_drewN | apply Kd.R_drew)); exact Kd.R_mono HO188.out (fun _ hk => ⟨hk.1.1.1.2, ⟨hk.1.1.2, ⟨hk.2, hk.1.2⟩⟩⟩)), (bk_ BK183.out), (bk_ BK184.out), (bk_ BK191.out), (bk_ BK192.out), GW191.out, GE191.out, NB183_191.out, NB191_183.out, NB184_191.out, NB191_184.out, NB192_191.out, NB191_192.out, GW192.out, GE192.out, NB183_192.out, NB192_183.out, NB184_192.out, NB192_184.out, (hbg_)⟩)
            rintro ⟨gb191, gb192⟩ w21 ⟨hS_, h0_, h1_, h2_, h3_, h4_, h5_, h6_, h7_, h8_, h9_, h10_, h11_, h12_, h13_, h14_, h15_, h16_, h17_, h18_, h19_⟩
            have n0_ : Aside0 (Kd.R k34 34 w21 w.heap.size (fun k_ => k_ ≠ gb183 ∧ k_ ≠ gb184 ∧ k_ ≠ gb191 ∧ k_ ≠ gb192) (.slice (some ad189) t186.length co18) t186) := ⟨h0_⟩
            have n1_ : Aside0 (w21.heap[gb183]? = some (.cells #[.int .i64 0, .int .i64 0] 34 (0, 0))) := ⟨h1_⟩
            have n2_ : Aside0 (w21.heap[gb184]? = some (.cells #[.int .i64 0, .int .i64 0] 34 (0, 0))) := ⟨h2_⟩
            have n3_ : Aside0 (w21.heap[gb191]? = some (.cells #[.int .i64 0, .int .i64 0] 34 (0, 0))) := ⟨h3_⟩
            have n4_ : Aside0 (w21.heap[gb192]? = some (.cells #[.int .i64 0, .int .i64 0] 34 (0, 0))) := ⟨h4_⟩
            have n5_ : Aside0 (w.heap.size ≤ gb191) := ⟨h5_⟩
            have n6_ : Aside0 (w.heap.size ≤ gb191) := ⟨h6_⟩
            have n7_ : Aside0 (gb183 ≠ gb191) := ⟨h7_⟩
            have n8_ : Aside0 (gb191 ≠ gb183) := ⟨h8_⟩
            have n9_ : Aside0 (gb184 ≠ gb191) := ⟨h9_⟩
            have n10_ : Aside0 (gb191 ≠ gb184) := ⟨h10_⟩
            have n11_ : Aside0 (gb192 ≠ gb191) := ⟨h11_⟩
            have n12_ : Aside0 (gb191 ≠ gb192) := ⟨h12_⟩
            have n13_ : Aside0 (w.heap.size ≤ gb192) := ⟨h13_⟩
            have n14_ : Aside0 (w.heap.size ≤ gb192) := ⟨h14_⟩
            have n15_ : Aside0 (gb183 ≠ gb192) := ⟨h15_⟩
            have n16_ : Aside0 (gb192 ≠ gb183) := ⟨h16_⟩
            have n17_ : Aside0 (gb184 ≠ gb192) := ⟨h17_⟩
            have n18_ : Aside0 (gb192 ≠ gb184) := ⟨h18_⟩
            have n19_ : Aside0 (Below w.heap.size w w21) := ⟨h19_⟩
            clear HO188
            clear BK183
            clear BK184
            clear HB
            clear h0_ h1_ h2_ h3_ h4_ h5_ h6_ h7_ h8_ h9_ h10_ h11_ h12_ h13_ h14_ h15_ h16_ h17_ h18_ h19_
            have HO188 := n0_
            have BK183 := n1_
            have BK184 := n2_
            have BK191 := n3_
            have BK192 := n4_
            have GW191 := n5_
            have GE191 := n6_
            have NB183_191 := n7_
            have NB191_183 := n8_
            have NB184_191 := n9_
            have NB191_184 := n10_
            have NB192_191 := n11_
            have NB191_192 := n12_
            have GW192 := n13_
            have GE192 := n14_
            have NB183_192 := n15_
            have NB192_183 := n16_
            have NB184_192 := n17_
            have NB192_184 := n18_
            have HB := n19_
            clear n0_ n1_ n2_ n3_ n4_ n5_ n6_ n7_ n8_ n9_ n10_ n11_ n12_ n13_ n14_ n15_ n16_ n17_ n18_ n19_
            have hHeld : w21.cell? ad189 = some (.int .i64 ((rd_T34 t186 0).f0)) ∧ w21.cell? ⟨ad189.block, ad189.off + 1, none⟩ = some (.int .i64 ((rd_T34 t186 0).f1)) ∧ w21.cell? ⟨ad189.block, ad189.off + 2, none⟩ = some (.int .i64 ((rd_T34 t186 1).f0)) ∧ w21.cell? ⟨ad189.block, ad189.off + 2 + 1, none⟩ = some (.int .i64 ((rd_T34 t186 1).f1)) := hS_
            refine norm_ (a' := ?_) ?_ ?_
            rotate_left
            · simp only [putAll, Act.put, List.setIfInBounds_toArray, List.set_cons_zero, List.set_cons_succ]
              rfl
            refine one_ (i := 8) (N := none) #[true, true, true, true, true, true, true, true, true, false] rfl rfl (one_of HT_.out (by kernel_rfl)) (by decide) (fun K hK => ?_)
            have hs22 : w21.cell? ⟨gb191, 0, none⟩ = some (.int .i64 0) := (blk_cell BK191.out 0).trans rfl
            have hfs22 := blk_frozen BK191.out 0
            have hns22_0 := NB183_191.out
            have hns22_1 := NB184_191.out
            have hns22_3 := NB192_191.out
            have hms22_0 := NB191_183.out
            have hms22_1 := NB191_184.out
            have hms22_3 := NB191_192.out
            have hs23 : w21.cell? ⟨gb191, 1, none⟩ = some (.int .i64 0) := (blk_cell BK191.out 1).trans rfl
            have hfs23 := blk_frozen BK191.out 1
            have hns23_0 := NB183_191.out
            have hns23_1 := NB184_191.out
            have hns23_3 := NB192_191.out
            have hms23_0 := NB191_183.out
            have hms23_1 := NB191_184.out
            have hms23_3 := NB191_192.out
            refine skip_ (w1 := ?_) (by rfl) rfl ?_ ?_
            rotate_left
            · go_simp
              rfl
            refine hK.out _ _ ⟨((cell_far (p := ⟨gb191, _, none⟩) (by first | exact Kd.own_blk (Kd.R_away HO188.out (fun _ hk => hk.2.2.1)) | (rw [add_block]; exact Kd.own_blk (Kd.R_away HO188.out (fun _ hk => hk.2.2.1))) | (show (Addr.add _ _).block ≠ _; rw [add_block]; exact Kd.own_blk (Kd.R_away HO188.out (fun _ hk => hk.2.2.1))) | (dsimp only; exact Kd.own_blk (Kd.R_away HO188.out (fun _ hk => hk.2.2.1)))) _).trans (((cell_far (p := ⟨gb191, _, none⟩) (by first | exact Kd.own_blk (Kd.R_away HO188.out (fun _ hk => hk.2.2.1)) | (rw [add_block]; exact Kd.own_blk (Kd.R_away HO188.out (fun _ hk => hk.2.2.1))) | (show (Addr.add _ _).block ≠ _; rw [add_block]; exact Kd.own_blk (Kd.R_away HO188.out (fun _ hk => hk.2.2.1))) | (dsimp only; exact Kd.own_blk (Kd.R_away HO188.out (fun _ hk => hk.2.2.1)))) _).trans (hHeld.1)))), ((cell_far (p := ⟨gb191, _, none⟩) (by first | exact Kd.own_blk (Kd.R_away HO188.out (fun _ hk => hk.2.2.1)) | (rw [add_block]; exact Kd.own_blk (Kd.R_away HO188.out (fun _ hk => hk.2.2.1))) | (show (Addr.add _ _).block ≠ _; rw [add_block]; exact Kd.own_blk (Kd.R_away HO188.out (fun _ hk => hk.2.2.1))) | (dsimp only; exact Kd.own_blk (Kd.R_away HO188.out (fun _ hk => hk.2.2.1)))) _).trans (((cell_far (p := ⟨gb191, _, none⟩) (by first | exact Kd.own_blk (Kd.R_away HO188.out (fun _ hk => hk.2.2.1)) | (rw [add_block]; exact Kd.own_blk (Kd.R_away HO188.out (fun _ hk => hk.2.2.1))) | (show (Addr.add _ _).block ≠ _; rw [add_block]; exact Kd.own_blk (Kd.R_away HO188.out (fun _ hk => hk.2.2.1))) | (dsimp only; exact Kd.own_blk (Kd.R_away HO188.out (fun _ hk => hk.2.2.1)))) _).trans (hHeld.2.1)))), ((cell_far (p := ⟨gb191, _, none⟩) (by first | exact Kd.own_blk (Kd.R_away HO188.out (fun _ hk => hk.2.2.1)) | (rw [add_block]; exact Kd.own_blk (Kd.R_away HO188.out (fun _ hk => hk.2.2.1))) | (show (Addr.add _ _).block ≠ _; rw [add_block]; exact Kd.own_blk (Kd.R_away HO188.out (fun _ hk => hk.2.2.1))) | (dsimp only; exact Kd.own_blk (Kd.R_away HO188.out (fun _ hk => hk.2.2.1)))) _).trans (((cell_far (p := ⟨gb191, _, none⟩) (by first | exact Kd.own_blk (Kd.R_away HO188.out (fun _ hk => hk.2.2.1)) | (rw [add_block]; exact Kd.own_blk (Kd.R_away HO188.out (fun _ hk => hk.2.2.1))) | (show (Addr.add _ _).block ≠ _; rw [add_block]; exact Kd.own_blk (Kd.R_away HO188.out (fun _ hk => hk.2.2.1))) | (dsimp only; exact Kd.own_blk (Kd.R_away HO188.out (fun _ hk => hk.2.2.1)))) _).trans (hHeld.2.2.1)))), ((cell_far (p := ⟨gb191, _, none⟩) (by first | exact Kd.own_blk (Kd.R_away HO188.out (fun _ hk => hk.2.2.1)) | (rw [add_block]; exact Kd.own_blk (Kd.R_away HO188.out (fun _ hk => hk.2.2.1))) | (show (Addr.add _ _).block ≠ _; rw [add_block]; exact Kd.own_blk (Kd.R_away HO188.out (fun _ hk => hk.2.2.1))) | (dsimp only; exact Kd.own_blk (Kd.R_away HO188.out (fun _ hk => hk.2.2.1)))) _).trans (((cell_far (p := ⟨gb191, _, none⟩) (by first | exact Kd.own_blk (Kd.R_away HO188.out (fun _ hk => hk.2.2.1)) | (rw [add_block]; exact Kd.own_blk (Kd.R_away HO188.out (fun _ hk => hk.2.2.1))) | (show (Addr.add _ _).block ≠ _; rw [add_block]; exact Kd.own_blk (Kd.R_away HO188.out (fun _ hk => hk.2.2.1))) | (dsimp only; exact Kd.own_blk (Kd.R_away HO188.out (fun _ hk => hk.2.2.1)))) _).trans (hHeld.2.2.2))))⟩ (fun hHeld => ?_)
            clear hK K
            refine one_ (i := 9) (N := none) #[true, true, true, true, true, true, true, true, true, true] rfl rfl (one_of HT_.out (by kernel_rfl)) (by decide) (fun K hK => ?_)
            have hs24 : w21.cell? ⟨gb192, 0, none⟩ = some (.int .i64 0) := (blk_cell BK192.out 0).trans rfl
            have hfs24 := blk_frozen BK192.out 0
            have hns24_0 := NB183_192.out
            have hns24_1 := NB184_192.out
            have hns24_2 := NB191_192.out
            have hms24_0 := NB192_183.out
            have hms24_1 := NB192_184.out
            have hms24_2 := NB192_191.out
            have hs25 : w21.cell? ⟨gb192, 1, none⟩ = some (.int .i64 0) := (blk_cell BK192.out 1).trans rfl
            have hfs25 := blk_frozen BK192.out 1
            have hns25_0 := NB183_192.out
            have hns25_1 := NB184_192.out
            have hns25_2 := NB191_192.out
            have hms25_0 := NB192_183.out
            have hms25_1 := NB192_184.out
            have hms25_2 := NB192_191.out
            refine skip_ (w1 := ?_) (by rfl) rfl ?_ ?_
            rotate_left
            · go_simp
              rfl
            refine hK.out _ _ ⟨((cell_far (p := ⟨gb192, _, none⟩) (by first | exact Kd.own_blk (Kd.R_away HO188.out (fun _ hk => hk.2.2.2)) | (rw [add_block]; exact Kd.own_blk (Kd.R_away HO188.out (fun _ hk => hk.2.2.2))) | (show (Addr.add _ _).block ≠ _; rw [add_block]; exact Kd.own_blk (Kd.R_away HO188.out (fun _ hk => hk.2.2.2))) | (dsimp only; exact Kd.own_blk (Kd.R_away HO188.out (fun _ hk => hk.2.2.2)))) _).trans (((cell_far (p := ⟨gb192, _, none⟩) (by first | exact Kd.own_blk (Kd.R_away HO188.out (fun _ hk => hk.2.2.2)) | (rw [add_block]; exact Kd.own_blk (Kd.R_away HO188.out (fun _ hk => hk.2.2.2))) | (show (Addr.add _ _).block ≠ _; rw [add_block]; exact Kd.own_blk (Kd.R_away HO188.out (fun _ hk => hk.2.2.2))) | (dsimp only; exact Kd.own_blk (Kd.R_away HO188.out (fun _ hk => hk.2.2.2)))) _).trans (hHeld.1)))), ((cell_far (p := ⟨gb192, _, none⟩) (by first | exact Kd.own_blk (Kd.R_away HO188.out (fun _ hk => hk.2.2.2)) | (rw [add_block]; exact Kd.own_blk (Kd.R_away HO188.out (fun _ hk => hk.2.2.2))) | (show (Addr.add _ _).block ≠ _; rw [add_block]; exact Kd.own_blk (Kd.R_away HO188.out (fun _ hk => hk.2.2.2))) | (dsimp only; exact Kd.own_blk (Kd.R_away HO188.out (fun _ hk => hk.2.2.2)))) _).trans (((cell_far (p := ⟨gb192, _, none⟩) (by first | exact Kd.own_blk (Kd.R_away HO188.out (fun _ hk => hk.2.2.2)) | (rw [add_block]; exact Kd.own_blk (Kd.R_away HO188.out (fun _ hk => hk.2.2.2))) | (show (Addr.add _ _).block ≠ _; rw [add_block]; exact Kd.own_blk (Kd.R_away HO188.out (fun _ hk => hk.2.2.2))) | (dsimp only; exact Kd.own_blk (Kd.R_away HO188.out (fun _ hk => hk.2.2.2)))) _).trans (hHeld.2.1)))), ((cell_far (p := ⟨gb192, _, none⟩) (by first | exact Kd.own_blk (Kd.R_away HO188.out (fun _ hk => hk.2.2.2)) | (rw [add_block]; exact Kd.own_blk (Kd.R_away HO188.out (fun _ hk => hk.2.2.2))) | (show (Addr.add _ _).block ≠ _; rw [add_block]; exact Kd.own_blk (Kd.R_away HO188.out (fun _ hk => hk.2.2.2))) | (dsimp only; exact Kd.own_blk (Kd.R_away HO188.out (fun _ hk => hk.2.2.2)))) _).trans (((cell_far (p := ⟨gb192, _, none⟩) (by first | exact Kd.own_blk (Kd.R_away HO188.out (fun _ hk => hk.2.2.2)) | (rw [add_block]; exact Kd.own_blk (Kd.R_away HO188.out (fun _ hk => hk.2.2.2))) | (show (Addr.add _ _).block ≠ _; rw [add_block]; exact Kd.own_blk (Kd.R_away HO188.out (fun _ hk => hk.2.2.2))) | (dsimp only; exact Kd.own_blk (Kd.R_away HO188.out (fun _ hk => hk.2.2.2)))) _).trans (hHeld.2.2.1)))), ((cell_far (p := ⟨gb192, _, none⟩) (by first | exact Kd.own_blk (Kd.R_away HO188.out (fun _ hk => hk.2.2.2)) | (rw [add_block]; exact Kd.own_blk (Kd.R_away HO188.out (fun _ hk => hk.2.2.2))) | (show (Addr.add _ _).block ≠ _; rw [add_block]; exact Kd.own_blk (Kd.R_away HO188.out (fun _ hk => hk.2.2.2))) | (dsimp only; exact Kd.own_blk (Kd.R_away HO188.out (fun _ hk => hk.2.2.2)))) _).trans (((cell_far (p := ⟨gb192, _, none⟩) (by first | exact Kd.own_blk (Kd.R_away HO188.out (fun _ hk => hk.2.2.2)) | (rw [add_block]; exact Kd.own_blk (Kd.R_away HO188.out (fun _ hk => hk.2.2.2))) | (show (Addr.add _ _).block ≠ _; rw [add_block]; exact Kd.own_blk (Kd.R_away HO188.out (fun _ hk => hk.2.2.2))) | (dsimp only; exact Kd.own_blk (Kd.R_away HO188.out (fun _ hk => hk.2.2.2)))) _).trans (hHeld.2.2.2))))⟩ (fun hHeld => ?_)
            clear hK K
            refine done_ (done_of HT_.out (by kernel_rfl)) ?_
            try go_wp2
            go_loopg [33] kj1 (fun kq v33 w' => ∃ (x33_2 : Int) (x192000_2 : Int) (x192001_2 : Int) (x193000_2 : Int) (x193001_2 : Int), v33 = .int .i64 x33_2 ∧ Aside0 (spec_FarthestApart.l0 kq t186 t186 (t186.length : Int) x33_2 x192000_2 x192001_2 x193000_2 x193001_2 = some (r1, r2, r3, r4, r5, r6)) ∧ Aside0 (kq ≤ kj1) ∧ Aside0 (Kd.R k34 34 w' w.heap.size (fun k_ => k_ ≠ gb183 ∧ k_ ≠ gb184 ∧ k_ ≠ gb191 ∧ k_ ≠ gb192) (.slice (some ad189) t186.length co18) t186) ∧ Aside0 (Kd.R k34 34 w' w.heap.size (fun k_ => k_ ≠ gb183 ∧ k_ ≠ gb184 ∧ k_ ≠ gb191 ∧ k_ ≠ gb192) (.slice (some ad189) t186.length co18) t186) ∧ Aside0 (w'.heap[gb183]? = some (.cells #[.int .i64 0, .int .i64 0] 34 (0, 0))) ∧ Aside0 (w'.heap[gb184]? = some (.cells #[.int .i64 0, .int .i64 0] 34 (0, 0))) ∧ Aside0 (w'.heap[gb191]? = some (.cells #[.int .i64 x192000_2, .int .i64 x192001_2] 34 (0, 0))) ∧ Aside0 (w'.heap[gb192]? = some (.cells #[.int .i64 x193000_2, .int .i64 x193001_2] 34 (0, 0))) ∧ Aside0 (Below w.heap.size w w'))
            case atStart => exact ⟨(0), ((rd_T34 t186 0).f0), ((rd_T34 t186 0).f1), ((rd_T34 t186 1).f0), ((rd_T34 t186 1).f1), (by first | rfl | (simp; done) | (simp [*]; done)), H', ⟨Nat.le_refl _⟩, ⟨by (with_reducible repeat (first | apply Kd.R_alloc | apply Kd.R_drewN | apply Kd.R_drew)); exact Kd.R_mono (Kd.R_far (p := ⟨gb192, 1, none⟩) (Kd.R_far (p := ⟨gb192, 0, none⟩) (Kd.R_far (p := ⟨gb191, 1, none⟩) (Kd.R_far (p := ⟨gb191, 0, none⟩) (Kd.R_mono (Kd.R_mono HO188.out (fun k_ hk => (⟨hk, hk.2.2.1⟩ : _ ∧ k_ ≠ gb191))) (fun k_ hk => (⟨hk, hk.1.2.2.2⟩ : _ ∧ k_ ≠ gb192))) (fun _ hk => hk.1.2) (.int .i64 ((rd_T34 t186 0).f0))) (fun _ hk => hk.1.2) (.int .i64 ((rd_T34 t186 0).f1))) (fun _ hk => hk.2) (.int .i64 ((rd_T34 t186 1).f0))) (fun _ hk => hk.2) (.int .i64 ((rd_T34 t186 1).f1))) (fun _ hk => ⟨hk.1.1.1, ⟨hk.1.1.2.1, ⟨hk.1.1.2.2.1, hk.1.1.2.2.2⟩⟩⟩)⟩, ⟨by (with_reducible repeat (first | apply Kd.R_alloc | apply Kd.R_drewN | apply Kd.R_drew)); exact Kd.R_mono (Kd.R_far (p := ⟨gb192, 1, none⟩) (Kd.R_far (p := ⟨gb192, 0, none⟩) (Kd.R_far (p := ⟨gb191, 1, none⟩) (Kd.R_far (p := ⟨gb191, 0, none⟩) (Kd.R_mono (Kd.R_mono HO188.out (fun k_ hk => (⟨hk, hk.2.2.1⟩ : _ ∧ k_ ≠ gb191))) (fun k_ hk => (⟨hk, hk.1.2.2.2⟩ : _ ∧ k_ ≠ gb192))) (fun _ hk => hk.1.2) (.int .i64 ((rd_T34 t186 0).f0))) (fun _ hk => hk.1.2) (.int .i64 ((rd_T34 t186 0).f1))) (fun _ hk => hk.2) (.int .i64 ((rd_T34 t186 1).f0))) (fun _ hk => hk.2) (.int .i64 ((rd_T34 t186 1).f1))) (fun _ hk => ⟨hk.1.1.1, ⟨hk.1.1.2.1, ⟨hk.1.1.2.2.1, hk.1.1.2.2.2⟩⟩⟩)⟩, ⟨by (with_reducible repeat (first | refine blk_drewN ?_ _ | refine blk_drew ?_ | refine blk_alloc ?_ _)); refine blk_far ?_ NB183_192.out _; (with_reducible repeat (first | refine blk_drewN ?_ _ | refine blk_drew ?_ | refine blk_alloc ?_ _)); refine blk_far ?_ NB183_192.out _; (with_reducible repeat (first | refine blk_drewN ?_ _ | refine blk_drew ?_ | refine blk_alloc ?_ _)); refine blk_far ?_ NB183_191.out _; (with_reducible repeat (first | refine blk_drewN ?_ _ | refine blk_drew ?_ | refine blk_alloc ?_ _)); refine blk_far ?_ NB183_191.out _; (with_reducible repeat (first | refine blk_drewN ?_ _ | refine blk_drew ?_ | refine blk_alloc ?_ _)); exact BK183.out⟩, ⟨by (with_reducible repeat (first | refine blk_drewN ?_ _ | refine blk_drew ?_ | refine blk_alloc ?_ _)); refine blk_far ?_ NB184_192.out _; (with_reducible repeat (first | refine blk_drewN ?_ _ | refine blk_drew ?_ | refine blk_alloc ?_ _)); refine blk_far ?_ NB184_192.out _; (with_reducible repeat (first | refine blk_drewN ?_ _ | refine blk_drew ?_ | refine blk_alloc ?_ _)); refine blk_far ?_ NB184_191.out _; (with_reducible repeat (first | refine blk_drewN ?_ _ | refine blk_drew ?_ | refine blk_alloc ?_ _)); refine blk_far ?_ NB184_191.out _; (with_reducible repeat (first | refine blk_drewN ?_ _ | refine blk_drew ?_ | refine blk_alloc ?_ _)); exact BK184.out⟩, ⟨by (with_reducible repeat (first | refine blk_drewN ?_ _ | refine blk_drew ?_ | refine blk_alloc ?_ _)); refine blk_far ?_ NB191_192.out _; (with_reducible repeat (first | refine blk_drewN ?_ _ | refine blk_drew ?_ | refine blk_alloc ?_ _)); refine blk_far ?_ NB191_192.out _; (with_reducible repeat (first | refine blk_drewN ?_ _ | refine blk_drew ?_ | refine blk_alloc ?_ _)); refine blk_put (cs := #[.int .i64 ((rd_T34 t186 0).f0), .int .i64 0]) ?_ 1 _ rfl; (with_reducible repeat (first | refine blk_drewN ?_ _ | refine blk_drew ?_ | refine blk_alloc ?_ _)); refine blk_put (cs := #[.int .i64 0, .int .i64 0]) ?_ 0 _ rfl; (with_reducible repeat (first | refine blk_drewN ?_ _ | refine blk_drew ?_ | refine blk_alloc ?_ _)); exact BK191.out⟩, ⟨by (with_reducible repeat (first | refine blk_drewN ?_ _ | refine blk_drew ?_ | refine blk_alloc ?_ _)); refine blk_put (cs := #[.int .i64 ((rd_T34 t186 1).f0), .int .i64 0]) ?_ 1 _ rfl; (with_reducible repeat (first | refine blk_drewN ?_ _ | refine blk_drew ?_ | refine blk_alloc ?_ _)); refine blk_put (cs := #[.int .i64 0, .int .i64 0]) ?_ 0 _ rfl; (with_reducible repeat (first | refine blk_drewN ?_ _ | refine blk_drew ?_ | refine blk_alloc ?_ _)); refine blk_far ?_ NB192_191.out _; (with_reducible repeat (first | refine blk_drewN ?_ _ | refine blk_drew ?_ | refine blk_alloc ?_ _)); refine blk_far ?_ NB192_191.out _; (with_reducible repeat (first | refine blk_drewN ?_ _ | refine blk_drew ?_ | refine blk_alloc ?_ _)); exact BK192.out⟩, ⟨hbg_⟩⟩
            case round =>
              clear H'
              try clear c1
              try clear p1
              try clear q1
              try clear hx1
              try clear qi1
              try clear c2
              try clear p2
              try clear c4
              try clear c5
              try clear c6
              try clear c9
              try clear c10
              try clear c14
              try clear c14b0
              try clear c14b1
              try clear c15
              try clear c15b0
              try clear c15b1
              try clear p18
              try clear q18
              try clear hx18
              try clear qi18
              try clear p19
              try clear q19
              try clear hx19
              try clear qi19
              try clear c24
              try clear hcz11_0
              try clear hcz11_1
              try clear hcz12_0
              try clear hcz12_1
              try clear hfz11_0
              try clear hfz11_1
              try clear hfz12_0
              try clear hfz12_1
              try clear hx189_0
              try clear hx189_1
              try clear hx190_0
              try clear hx190_1
              try clear p189
              try clear p190
              try clear p2
              try clear q189
              try clear q190
              obtain ⟨x33_2, x192000_2, x192001_2, x193000_2, x193001_2, rfl, HA, HK2, HO_6, HO_31, BK183, BK184, BK191, BK192, HB⟩ := hrel
              cases gk with
              | zero => exact absurd HA.out (by simp [spec_FarthestApart.l0])
              | succ k2 =>
                have H := HA.out
                clear HA
                simp only [spec_FarthestApart.l0] at H
                by_cases c26 : x33_2 < (t186.length : Int)
                · rw [if_pos c26] at H
                  have c26b0 : decide (x33_2 < (t186.length : Int)) = true := decide_eq_true c26
                  clear c26
                  by_cases c27 : 0 ≤ x33_2
                  · rw [if_pos c27] at H
                    have c27b0 : decide (0 ≤ x33_2) = true := decide_eq_true c27
                    clear c27
                    by_cases c28 : x33_2 < (t186.length : Int)
                    · rw [if_pos c28] at H
                      have c28b0 : decide (x33_2 < (t186.length : Int)) = true := decide_eq_true c28
                      clear c28
                      obtain ⟨ji29, hji29⟩ : ∃ j_ : Int, (wrap64 (x33_2 + 1)) = j_ := ⟨_, rfl⟩
                      replace H : (if 0 ≤ (ji29) then (if (ji29) ≤ (t186.length : Int) then ((some (t186.drop ((ji29) : Int).toNat : List (S34))).bind fun y196 => (spec_FarthestApart.l1 k2 t186 t186 (t186.length : Int) x33_2 y196 (y196.length : Int) 0 x192000_2 x192001_2 x193000_2 x193001_2 ((rd_T34 t186 x33_2).f0) ((rd_T34 t186 x33_2).f1))) else (none)) else (none)) = some (r1, r2, r3, r4, r5, r6) := by first | (rw [hji29] at H; exact H) | (simp only [hji29] at H ⊢; exact H)
                      have hji29w : (IntKind.i64.wrap (x33_2 + 1)) = ji29 := (i64_w _).trans hji29
                      by_cases c30 : 0 ≤ (ji29)
                      · rw [if_pos c30] at H
                        have c30b0 := eq_true c30
                        have c30b1 : decide (0 ≤ (ji29)) = true := decide_eq_true c30
                        clear c30
                        by_cases c31 : (ji29) ≤ (t186.length : Int)
                        · rw [if_pos c31] at H
                          have c31b0 := eq_true c31
                          have c31b1 : decide ((ji29) ≤ (t186.length : Int)) = true := decide_eq_true c31
                          clear c31
                          obtain ⟨y196, hy196⟩ : ∃ y_ : List (S34), y_ = (t186.drop ((ji29) : Int).toNat) := ⟨_, rfl⟩
                          replace H : (spec_FarthestApart.l1 k2 t186 t186 (t186.length : Int) x33_2 y196 (y196.length : Int) 0 x192000_2 x192001_2 x193000_2 x193001_2 ((rd_T34 t186 x33_2).f0) ((rd_T34 t186 x33_2).f1)) = some (r1, r2, r3, r4, r5, r6) := by first | (rw [hy196]; with_reducible exact H) | (have H2_ := (Option.bind_some _ _).symm.trans H; rw [hy196]; with_reducible exact H2_) | (have H2_ := (Option.bind_some _ _).symm.trans H; with_reducible exact H2_) | with_reducible exact H | (rw [hy196]; exact H) | exact H
                          have Ny196 := Aside0.mk hy196
                          clear hy196
                          have H' := Aside0.mk H
                          clear H
                          have p194 : 0 ≤ (x33_2 : Int) := odt_
                          have q194 : x33_2 < (t186.length : Int) := odt_
                          obtain ⟨ad194, e194, hx194_0, hx194_1⟩ := at_T34 (Kd.R_reads' HO_31.out).2.2 x33_2 p194 q194
                          obtain rfl : ad189 = ad194 := (by injection e194)
                          replace p194 := eq_true p194
                          replace q194 := eq_true q194
                          go_wp2_with (first | ((with_reducible refine gate_dst (N := 10) rfl ?_); (try (refine gate_guard (by rfl) ?_; dsimp only)); refine box_event ?hg (N := 10) ?hd (cs := #[.int .i64 0, .int .i64 0]) (t := 34) ?hr ?_; (case hd => rfl); (case hg => rfl); (case hr => first | (go_simp; done) | (go_simp; rfl)); intro gb195 hg w32 hbox hb; have n0_ := Aside0.mk (Kd.R_below (Kd.R_elderB (rk_ HO_6.out) gb195 (Nat.le_of_eq hg.symm)) hb); have n1_ := Aside0.mk (Kd.R_below (Kd.R_elderB (rk_ HO_31.out) gb195 (Nat.le_of_eq hg.symm)) hb); have n2_ := bb_ BK183 hb; have n3_ := bb_ BK184 hb; have n4_ := bb_ BK191 hb; have n5_ := bb_ BK192 hb; have n6_ := Aside0.mk (below_step (hbg_) hb); have n7_ := Aside0.mk (hbox); have n8_ := Aside0.mk ((by rw [hg]; exact (below_size (hbg_)) : w.heap.size ≤ gb195)); have n9_ := Aside0.mk ((by rw [hg]; exact (below_size (hbg_)) : w.heap.size ≤ gb195)); have n10_ := Aside0.mk ((by rw [hg]; exact Nat.ne_of_lt (blk_lt (bk_ BK183.out)) : gb183 ≠ gb195)); have n11_ := Aside0.mk ((by rw [hg]; exact Nat.ne_of_gt (blk_lt (bk_ BK183.out)) : gb195 ≠ gb183)); have n12_ := Aside0.mk ((by rw [hg]; exact Nat.ne_of_lt (blk_lt (bk_ BK184.out)) : gb184 ≠ gb195)); have n13_ := Aside0.mk ((by rw [hg]; exact Nat.ne_of_gt (blk_lt (bk_ BK184.out)) : gb195 ≠ gb184)); have n14_ := Aside0.mk ((by rw [hg]; exact Nat.ne_of_lt (blk_lt (bk_ BK191.out)) : gb191 ≠ gb195)); have n15_ := Aside0.mk ((by rw [hg]; exact Nat.ne_of_gt (blk_lt (bk_ BK191.out)) : gb195 ≠ gb191)); have n16_ := Aside0.mk ((by rw [hg]; exact Nat.ne_of_lt (blk_lt (bk_ BK192.out)) : gb192 ≠ gb195)); have n17_ := Aside0.mk ((by rw [hg]; exact Nat.ne_of_gt (blk_lt (bk_ BK192.out)) : gb195 ≠ gb192)); clear HO_6; clear HO_31; clear BK183; clear BK184; clear BK191; clear BK192; clear HB; have HO_6 := n0_; have HO_31 := n1_; have BK183 := n2_; have BK184 := n3_; have BK191 := n4_; have BK192 := n5_; have HB := n6_; have BK195 := n7_; have GW195 := n8_; have GE195 := n9_; have NB183_195 := n10_; have NB195_183 := n11_; have NB184_195 := n12_; have NB195_184 := n13_; have NB191_195 := n14_; have NB195_191 := n15_; have NB192_195 := n16_; have NB195_192 := n17_; clear n0_ n1_ n2_ n3_ n4_ n5_ n6_ n7_ n8_ n9_ n10_ n11_ n12_ n13_ n14_ n15_ n16_ n17_; clear hb hbox hg; have hnb33 := NB195_183.out; have hnc33 := NB183_195.out; have hnb34 := NB195_184.out; have hnc34 := NB184_195.out; have hnb35 := NB195_191.out; have hnc35 := NB191_195.out; have hnb36 := NB195_192.out; have hnc36 := NB192_195.out; have hcz37_0 : w32.cell? ⟨gb195, 0, none⟩ = some (.int .i64 0) := (blk_cell BK195.out 0).trans rfl; have hcz37_1 : w32.cell? ⟨gb195, 1, none⟩ = some (.int .i64 0) := (blk_cell BK195.out 1).trans rfl; have hfz37_0 := blk_frozen BK195.out 0; have hfz37_1 := blk_frozen BK195.out 1) | ((with_reducible refine gate_store (t := 34) (p := 10) rfl ?_); refine store_event (t := 34) (p := 10) (v := ?vo_w38) (w1 := ((w32.setCell ⟨gb195, 0, none⟩ (.int .i64 ((rd_T34 t186 x33_2).f0))).setCell ⟨gb195, 1, none⟩ (.int .i64 ((rd_T34 t186 x33_2).f1)))) ?hg ?ho ?hn ?hr ?_; (case ho => rfl); (case hg => rfl); (case hn => rfl); (case hr => first | (go_simp; done) | (go_simp; rfl)); intro w38 hw; have n0_ : Aside0 (Kd.R k34 34 w38 w.heap.size (fun k_ => k_ ≠ gb183 ∧ k_ ≠ gb184 ∧ k_ ≠ gb191 ∧ k_ ≠ gb192 ∧ k_ ≠ gb195) (.slice (some ad189) t186.length co18) t186) := ⟨(by rw [hw]; exact (by (with_reducible repeat (first | apply Kd.R_alloc | apply Kd.R_drewN | apply Kd.R_drew)); exact Kd.R_mono (Kd.R_far (p := ⟨gb195, 1, none⟩) (Kd.R_far (p := ⟨gb195, 0, none⟩) (Kd.R_mono HO_6.out (fun k_ hk => (⟨hk, hk.2⟩ : _ ∧ k_ ≠ gb195))) (fun _ hk => hk.2) (.int .i64 ((rd_T34 t186 x33_2).f0))) (fun _ hk => hk.2) (.int .i64 ((rd_T34 t186 x33_2).f1))) (fun _ hk => ⟨hk.1.1.1, ⟨hk.1.1.2.1, ⟨hk.1.1.2.2.1, ⟨hk.1.1.2.2.2, hk.1.2⟩⟩⟩⟩)))⟩; have n1_ : Aside0 (Kd.R k34 34 w38 w.heap.size (fun k_ => k_ ≠ gb183 ∧ k_ ≠ gb184 ∧ k_ ≠ gb191 ∧ k_ ≠ gb192 ∧ k_ ≠ gb195) (.slice (some ad189) t186.length co18) t186) := ⟨(by rw [hw]; exact (by (with_reducible repeat (first | apply Kd.R_alloc | apply Kd.R_drewN | apply Kd.R_drew)); exact Kd.R_mono (Kd.R_far (p := ⟨gb195, 1, none⟩) (Kd.R_far (p := ⟨gb195, 0, none⟩) (Kd.R_mono HO_31.out (fun k_ hk => (⟨hk, hk.2⟩ : _ ∧ k_ ≠ gb195))) (fun _ hk => hk.2) (.int .i64 ((rd_T34 t186 x33_2).f0))) (fun _ hk => hk.2) (.int .i64 ((rd_T34 t186 x33_2).f1))) (fun _ hk => ⟨hk.1.1.1, ⟨hk.1.1.2.1, ⟨hk.1.1.2.2.1, ⟨hk.1.1.2.2.2, hk.1.2⟩⟩⟩⟩)))⟩; have n2_ : Aside0 (w38.heap[gb183]? = some (.cells #[.int .i64 0, .int .i64 0] 34 (0, 0))) := ⟨(by rw [hw]; exact (bf2_ BK183 NB183_195))⟩; have n3_ : Aside0 (w38.heap[gb184]? = some (.cells #[.int .i64 0, .int .i64 0] 34 (0, 0))) := ⟨(by rw [hw]; exact (bf2_ BK184 NB184_195))⟩; have n4_ : Aside0 (w38.heap[gb191]? = some (.cells #[.int .i64 x192000_2, .int .i64 x192001_2] 34 (0, 0))) := ⟨(by rw [hw]; exact (bf2_ BK191 NB191_195))⟩; have n5_ : Aside0 (w38.heap[gb192]? = some (.cells #[.int .i64 x193000_2, .int .i64 x193001_2] 34 (0, 0))) := ⟨(by rw [hw]; exact (bf2_ BK192 NB192_195))⟩; have n6_ : Aside0 (w38.heap[gb195]? = some (.cells #[.int .i64 ((rd_T34 t186 x33_2).f0), .int .i64 ((rd_T34 t186 x33_2).f1)] 34 (0, 0))) := ⟨(by rw [hw]; exact (by (with_reducible repeat (first | refine blk_drewN ?_ _ | refine blk_drew ?_ | refine blk_alloc ?_ _)); refine blk_put (cs := #[.int .i64 ((rd_T34 t186 x33_2).f0), .int .i64 0]) ?_ 1 _ rfl; (with_reducible repeat (first | refine blk_drewN ?_ _ | refine blk_drew ?_ | refine blk_alloc ?_ _)); refine blk_put (cs := #[.int .i64 0, .int .i64 0]) ?_ 0 _ rfl; (with_reducible repeat (first | refine blk_drewN ?_ _ | refine blk_drew ?_ | refine blk_alloc ?_ _)); exact BK195.out))⟩; have n7_ : Aside0 (Below w.heap.size w w38) := ⟨(by rw [hw]; exact (hbg_))⟩; clear hw; clear HO_6; clear HO_31; clear BK183; clear BK184; clear BK191; clear BK192; clear BK195; clear HB; have HO_6 := n0_; have HO_31 := n1_; have BK183 := n2_; have BK184 := n3_; have BK191 := n4_; have BK192 := n5_; have BK195 := n6_; have HB := n7_; clear n0_ n1_ n2_ n3_ n4_ n5_ n6_ n7_; have q39 : ((ji29) : Int) ≤ ((t186.length : Int) : Int) := odt_; obtain ⟨i039, hi039, _, hsz39, _⟩ := info_parts info34; have hroom39 : t186.length ≤ co18 := (Kd.R_reads' HO_6.out).2.1; have hC39 : Kd.C k34 _ (some ad189) t186.length t186 := (Kd.R_reads' HO_6.out).2.2; have q039 : (0 : Int) ≤ ((ji29) : Int) := odt_; have hcut39 := cut_from (P := Try.prog) 25 34 .i64 Try.underlying25 hi039 2 hsz39 (some ad189) t186.length co18 (ji29) q039 q39; have hr39 := Kd.C_drop (m := ((ji29) : Int).toNat) (c := co18) hC39 (by omega) hroom39; obtain ⟨A39, hA39⟩ : ∃ A1, A1 = (if co18 = ((ji29) : Int).toNat then (some ad189) else ((some ad189) : Option Addr).map (·.add (((ji29) : Int).toNat * 2))) := ⟨_, rfl⟩; obtain ⟨c39, hc39⟩ : ∃ c1, c1 = co18 - ((ji29) : Int).toNat := ⟨_, rfl⟩; have hy39 : y196.length = t186.length - ((ji29) : Int).toNat := (by rw [Ny196.out, List.length_drop] <;> omega); rw [show (t186).drop ((ji29) : Int).toNat = y196 from Ny196.out.symm] at hr39; replace hr39 : Kd.C k34 _ A39 y196.length y196 := (by rw [hA39]; exact hr39); rw [← hy39, ← hA39, ← hc39] at hcut39; have HR199 := Aside0.mk hr39; have HC199 := Aside0.mk (show y196.length ≤ c39 from by rw [hy39, hc39]; exact Nat.sub_le_sub_right hroom39 _); clear hr39 hC39 hroom39 hi039 hsz39 hc39; have KY39 := Aside0.mk hy39; have KA39 := Aside0.mk hA39; clear hy39 hA39; have KL39 := Aside0.mk (show ((ji29) : Int).toNat ≤ t186.length from by omega); replace q39 := eq_true q39))
                          go_loopg [43] k2 (fun kq v43 w' => ∃ (x43_3 : Int) (x192000_3 : Int) (x192001_3 : Int) (x193000_3 : Int) (x193001_3 : Int), v43 = .int .i64 x43_3 ∧ Aside0 (spec_FarthestApart.l1 kq t186 t186 (t186.length : Int) x33_2 y196 (y196.length : Int) x43_3 x192000_3 x192001_3 x193000_3 x193001_3 ((rd_T34 t186 x33_2).f0) ((rd_T34 t186 x33_2).f1) = some (r1, r2, r3, r4, r5, r6)) ∧ Aside0 (kq ≤ k2) ∧ Aside0 (Kd.R k34 34 w' w.heap.size (fun k_ => k_ ≠ gb183 ∧ k_ ≠ gb184 ∧ k_ ≠ gb191 ∧ k_ ≠ gb192 ∧ k_ ≠ gb195) (.slice (some ad189) t186.length co18) t186) ∧ Aside0 (Kd.R k34 34 w' w.heap.size (fun k_ => k_ ≠ gb183 ∧ k_ ≠ gb184 ∧ k_ ≠ gb191 ∧ k_ ≠ gb192 ∧ k_ ≠ gb195) (.slice (some ad189) t186.length co18) t186) ∧ Aside0 (w'.heap[gb183]? = some (.cells #[.int .i64 0, .int .i64 0] 34 (0, 0))) ∧ Aside0 (w'.heap[gb184]? = some (.cells #[.int .i64 0, .int .i64 0] 34 (0, 0))) ∧ Aside0 (w'.heap[gb191]? = some (.cells #[.int .i64 x192000_3, .int .i64 x192001_3] 34 (0, 0))) ∧ Aside0 (w'.heap[gb192]? = some (.cells #[.int .i64 x193000_3, .int .i64 x193001_3] 34 (0, 0))) ∧ Aside0 (w'.heap[gb195]? = some (.cells #[.int .i64 ((rd_T34 t186 x33_2).f0), .int .i64 ((rd_T34 t186 x33_2).f1)] 34 (0, 0))) ∧ Aside0 (Kd.C k34 w' A39 y196.length y196) ∧ Aside0 (Below w.heap.size w w'))
                          case atStart => exact ⟨(0), (x192000_2), (x192001_2), (x193000_2), (x193001_2), (by first | rfl | (simp; done) | (simp [*]; done)), H', ⟨Nat.le_refl _⟩, ⟨rk_ HO_6.out⟩, ⟨rk_ HO_31.out⟩, ⟨bk_ BK183.out⟩, ⟨bk_ BK184.out⟩, ⟨bk_ BK191.out⟩, ⟨bk_ BK192.out⟩, ⟨bk_ BK195.out⟩, ⟨by repeat (first | (with_reducible exact HR199.out) | (with_reducible refine Kd.C_alloc ?_ _) | (with_reducible refine Kd.C_drewN ?_ _) | (with_reducible refine Kd.C_drew ?_) | exact HR199.out)⟩, ⟨hbg_⟩⟩
                          case round =>
                            clear H'
                            try clear c1
                            try clear p1
                            try clear q1
                            try clear hx1
                            try clear qi1
                            try clear c2
                            try clear p2
                            try clear c3
                            try clear q3
                            try clear c4
                            try clear c5
                            try clear c6
                            try clear p6
                            try clear c9
                            try clear c10
                            try clear c14
                            try clear c14b0
                            try clear c14b1
                            try clear c15
                            try clear c15b0
                            try clear c15b1
                            try clear p18
                            try clear q18
                            try clear hx18
                            try clear qi18
                            try clear p19
                            try clear q19
                            try clear hx19
                            try clear qi19
                            try clear c24
                            try clear c26
                            try clear c26b0
                            try clear c27
                            try clear c27b0
                            try clear c28
                            try clear c28b0
                            try clear c30
                            try clear c30b0
                            try clear c30b1
                            try clear c31
                            try clear c31b0
                            try clear c31b1
                            try clear c33
                            try clear c34
                            try clear c35
                            try clear c36
                            try clear c39
                            try clear q39
                            try clear hcz11_0
                            try clear hcz11_1
                            try clear hcz12_0
                            try clear hcz12_1
                            try clear hcz37_0
                            try clear hcz37_1
                            try clear hfz11_0
                            try clear hfz11_1
                            try clear hfz12_0
                            try clear hfz12_1
                            try clear hfz37_0
                            try clear hfz37_1
                            try clear hx189_0
                            try clear hx189_1
                            try clear hx190_0
                            try clear hx190_1
                            try clear hx194_0
                            try clear hx194_1
                            try clear p1
                            try clear p18
                            try clear p189
                            try clear p19
                            try clear p190
                            try clear p194
                            try clear p2
                            try clear q039
                            try clear q1
                            try clear q18
                            try clear q189
                            try clear q19
                            try clear q190
                            try clear q194
                            try clear q39
                            obtain ⟨x43_3, x192000_3, x192001_3, x193000_3, x193001_3, rfl, HA, HK3, HO_6, HO_31, BK183, BK184, BK191, BK192, BK195, HR199, HB⟩ := hrel
                            cases gk with
                            | zero => exact absurd HA.out (by simp [spec_FarthestApart.l1])
                            | succ k3 =>
                              have H := HA.out
                              clear HA
                              simp only [spec_FarthestApart.l1] at H
                              by_cases c40 : x43_3 < (y196.length : Int)
                              · rw [if_pos c40] at H
                                have c40b0 : decide (x43_3 < (y196.length : Int)) = true := decide_eq_true c40
                                clear c40
                                by_cases c41 : 0 ≤ x43_3
                                · rw [if_pos c41] at H
                                  have c41b0 : decide (0 ≤ x43_3) = true := decide_eq_true c41
                                  clear c41
                                  by_cases c42 : x43_3 < (y196.length : Int)
                                  · rw [if_pos c42] at H
                                    have c42b0 : decide (x43_3 < (y196.length : Int)) = true := decide_eq_true c42
                                    clear c42
                                    replace H := Option.bind_eq_some_iff.mp H
                                    obtain ⟨t202, A430, H⟩ := H
                                    replace H : ((spec_bdFar.f x192000_3 x192001_3 x193000_3 x193001_3).bind fun t203 => (if t202 > t203 then (spec_FarthestApart.l1 k3 t186 t186 (t186.length : Int) x33_2 y196 (y196.length : Int) (wrap64 (x43_3 + 1)) ((rd_T34 t186 x33_2).f0) ((rd_T34 t186 x33_2).f1) ((rd_T34 y196 x43_3).f0) ((rd_T34 y196 x43_3).f1) ((rd_T34 t186 x33_2).f0) ((rd_T34 t186 x33_2).f1)) else (spec_FarthestApart.l1 k3 t186 t186 (t186.length : Int) x33_2 y196 (y196.length : Int) (wrap64 (x43_3 + 1)) x192000_3 x192001_3 x193000_3 x193001_3 ((rd_T34 t186 x33_2).f0) ((rd_T34 t186 x33_2).f1)))) = some (r1, r2, r3, r4, r5, r6) := H
                                    have A43 := Aside0.mk A430
                                    clear A430
                                    replace H := Option.bind_eq_some_iff.mp H
                                    obtain ⟨t203, A440, H⟩ := H
                                    replace H : (if t202 > t203 then (spec_FarthestApart.l1 k3 t186 t186 (t186.length : Int) x33_2 y196 (y196.length : Int) (wrap64 (x43_3 + 1)) ((rd_T34 t186 x33_2).f0) ((rd_T34 t186 x33_2).f1) ((rd_T34 y196 x43_3).f0) ((rd_T34 y196 x43_3).f1) ((rd_T34 t186 x33_2).f0) ((rd_T34 t186 x33_2).f1)) else (spec_FarthestApart.l1 k3 t186 t186 (t186.length : Int) x33_2 y196 (y196.length : Int) (wrap64 (x43_3 + 1)) x192000_3 x192001_3 x193000_3 x193001_3 ((rd_T34 t186 x33_2).f0) ((rd_T34 t186 x33_2).f1))) = some (r1, r2, r3, r4, r5, r6) := H
                                    have A44 := Aside0.mk A440
                                    clear A440
                                    by_cases c45 : t202 > t203
                                    · rw [if_pos c45] at H
                                      have c45b0 : decide (t203 < t202) = true := decide_eq_true c45
                                      clear c45
                                      have H' := Aside0.mk H
                                      clear H
                                      have p200 : 0 ≤ (x43_3 : Int) := odt_
                                      have q200 : x43_3 < (y196.length : Int) := odt_
                                      obtain ⟨ad200, e200, hx200_0, hx200_1⟩ := at_T34 (by repeat (first | (with_reducible exact HR199.out) | (with_reducible refine Kd.C_alloc ?_ _) | (with_reducible refine Kd.C_drewN ?_ _) | (with_reducible refine Kd.C_drew ?_) | exact HR199.out)) x43_3 p200 q200
                                      cases e200
                                      replace p200 := eq_true p200
                                      replace q200 := eq_true q200
                                      try go_wp2_with (first | ((with_reducible refine gate_dst (N := 12) rfl ?_); (try (refine gate_guard (by rfl) ?_; dsimp only)); refine box_event ?hg (N := 12) ?hd (cs := #[.int .i64 0, .int .i64 0]) (t := 34) ?hr ?_; (case hd => rfl); (case hg => rfl); (case hr => first | (go_simp; done) | (go_simp; rfl)); intro gb201 hg w46 hbox hb; have n0_ := Aside0.mk (Kd.R_below (Kd.R_elderB (rk_ HO_6.out) gb201 (Nat.le_of_eq hg.symm)) hb); have n1_ := Aside0.mk (Kd.R_below (Kd.R_elderB (rk_ HO_31.out) gb201 (Nat.le_of_eq hg.symm)) hb); have n2_ := bb_ BK183 hb; have n3_ := bb_ BK184 hb; have n4_ := bb_ BK191 hb; have n5_ := bb_ BK192 hb; have n6_ := bb_ BK195 hb; have n7_ := Aside0.mk (Kd.C_below (by repeat (first | (with_reducible exact HR199.out) | (with_reducible refine Kd.C_alloc ?_ _) | (with_reducible refine Kd.C_drewN ?_ _) | (with_reducible refine Kd.C_drew ?_) | exact HR199.out)) hb); have n8_ := Aside0.mk (below_step (hbg_) hb); have n9_ := Aside0.mk (hbox); have n10_ := Aside0.mk ((by rw [hg]; exact (below_size (hbg_)) : w.heap.size ≤ gb201)); have n11_ := Aside0.mk ((by rw [hg]; exact (below_size (hbg_)) : w.heap.size ≤ gb201)); have n12_ := Aside0.mk ((by rw [hg]; exact Nat.ne_of_lt (blk_lt (bk_ BK183.out)) : gb183 ≠ gb201)); have n13_ := Aside0.mk ((by rw [hg]; exact Nat.ne_of_gt (blk_lt (bk_ BK183.out)) : gb201 ≠ gb183)); have n14_ := Aside0.mk ((by rw [hg]; exact Nat.ne_of_lt (blk_lt (bk_ BK184.out)) : gb184 ≠ gb201)); have n15_ := Aside0.mk ((by rw [hg]; exact Nat.ne_of_gt (blk_lt (bk_ BK184.out)) : gb201 ≠ gb184)); have n16_ := Aside0.mk ((by rw [hg]; exact Nat.ne_of_lt (blk_lt (bk_ BK191.out)) : gb191 ≠ gb201)); have n17_ := Aside0.mk ((by rw [hg]; exact Nat.ne_of_gt (blk_lt (bk_ BK191.out)) : gb201 ≠ gb191)); have n18_ := Aside0.mk ((by rw [hg]; exact Nat.ne_of_lt (blk_lt (bk_ BK192.out)) : gb192 ≠ gb201)); have n19_ := Aside0.mk ((by rw [hg]; exact Nat.ne_of_gt (blk_lt (bk_ BK192.out)) : gb201 ≠ gb192)); have n20_ := Aside0.mk ((by rw [hg]; exact Nat.ne_of_lt (blk_lt (bk_ BK195.out)) : gb195 ≠ gb201)); have n21_ := Aside0.mk ((by rw [hg]; exact Nat.ne_of_gt (blk_lt (bk_ BK195.out)) : gb201 ≠ gb195)); clear HO_6; clear HO_31; clear BK183; clear BK184; clear BK191; clear BK192; clear BK195; clear HR199; clear HB; have HO_6 := n0_; have HO_31 := n1_; have BK183 := n2_; have BK184 := n3_; have BK191 := n4_; have BK192 := n5_; have BK195 := n6_; have HR199 := n7_; have HB := n8_; have BK201 := n9_; have GW201 := n10_; have GE201 := n11_; have NB183_201 := n12_; have NB201_183 := n13_; have NB184_201 := n14_; have NB201_184 := n15_; have NB191_201 := n16_; have NB201_191 := n17_; have NB192_201 := n18_; have NB201_192 := n19_; have NB195_201 := n20_; have NB201_195 := n21_; clear n0_ n1_ n2_ n3_ n4_ n5_ n6_ n7_ n8_ n9_ n10_ n11_ n12_ n13_ n14_ n15_ n16_ n17_ n18_ n19_ n20_ n21_; clear hb hbox hg; have hnb47 := NB201_183.out; have hnc47 := NB183_201.out; have hnb48 := NB201_184.out; have hnc48 := NB184_201.out; have hnb49 := NB201_191.out; have hnc49 := NB191_201.out; have hnb50 := NB201_192.out; have hnc50 := NB192_201.out; have hnb51 := NB201_195.out; have hnc51 := NB195_201.out; have hcz52_0 : w46.cell? ⟨gb201, 0, none⟩ = some (.int .i64 0) := (blk_cell BK201.out 0).trans rfl; have hcz52_1 : w46.cell? ⟨gb201, 1, none⟩ = some (.int .i64 0) := (blk_cell BK201.out 1).trans rfl; have hfz52_0 := blk_frozen BK201.out 0; have hfz52_1 := blk_frozen BK201.out 1) | ((with_reducible refine gate_store (t := 34) (p := 12) rfl ?_); refine store_event (t := 34) (p := 12) (v := ?vo_w53) (w1 := ((w46.setCell ⟨gb201, 0, none⟩ (.int .i64 ((rd_T34 y196 x43_3).f0))).setCell ⟨gb201, 1, none⟩ (.int .i64 ((rd_T34 y196 x43_3).f1)))) ?hg ?ho ?hn ?hr ?_; (case ho => rfl); (case hg => rfl); (case hn => rfl); (case hr => first | (go_simp; done) | (go_simp; rfl)); intro w53 hw; have n0_ : Aside0 (Kd.R k34 34 w53 w.heap.size (fun k_ => k_ ≠ gb183 ∧ k_ ≠ gb184 ∧ k_ ≠ gb191 ∧ k_ ≠ gb192 ∧ k_ ≠ gb195 ∧ k_ ≠ gb201) (.slice (some ad189) t186.length co18) t186) := ⟨(by rw [hw]; exact (by (with_reducible repeat (first | apply Kd.R_alloc | apply Kd.R_drewN | apply Kd.R_drew)); exact Kd.R_mono (Kd.R_far (p := ⟨gb201, 1, none⟩) (Kd.R_far (p := ⟨gb201, 0, none⟩) (Kd.R_mono HO_6.out (fun k_ hk => (⟨hk, hk.2⟩ : _ ∧ k_ ≠ gb201))) (fun _ hk => hk.2) (.int .i64 ((rd_T34 y196 x43_3).f0))) (fun _ hk => hk.2) (.int .i64 ((rd_T34 y196 x43_3).f1))) (fun _ hk => ⟨hk.1.1.1, ⟨hk.1.1.2.1, ⟨hk.1.1.2.2.1, ⟨hk.1.1.2.2.2.1, ⟨hk.1.1.2.2.2.2, hk.1.2⟩⟩⟩⟩⟩)))⟩; have n1_ : Aside0 (Kd.R k34 34 w53 w.heap.size (fun k_ => k_ ≠ gb183 ∧ k_ ≠ gb184 ∧ k_ ≠ gb191 ∧ k_ ≠ gb192 ∧ k_ ≠ gb195 ∧ k_ ≠ gb201) (.slice (some ad189) t186.length co18) t186) := ⟨(by rw [hw]; exact (by (with_reducible repeat (first | apply Kd.R_alloc | apply Kd.R_drewN | apply Kd.R_drew)); exact Kd.R_mono (Kd.R_far (p := ⟨gb201, 1, none⟩) (Kd.R_far (p := ⟨gb201, 0, none⟩) (Kd.R_mono HO_31.out (fun k_ hk => (⟨hk, hk.2⟩ : _ ∧ k_ ≠ gb201))) (fun _ hk => hk.2) (.int .i64 ((rd_T34 y196 x43_3).f0))) (fun _ hk => hk.2) (.int .i64 ((rd_T34 y196 x43_3).f1))) (fun _ hk => ⟨hk.1.1.1, ⟨hk.1.1.2.1, ⟨hk.1.1.2.2.1, ⟨hk.1.1.2.2.2.1, ⟨hk.1.1.2.2.2.2, hk.1.2⟩⟩⟩⟩⟩)))⟩; have n2_ : Aside0 (Kd.C k34 w53 (some ad200) y196.length y196) := ⟨(by rw [hw]; exact ((by rw [KA39.out]; exact (show ∀ W_ : World, Kd.C k34 W_ _ (t186.drop ((ji29) : Int).toNat).length (t186.drop ((ji29) : Int).toNat) → Kd.C k34 W_ _ y196.length y196 from fun W_ h_ => by rw [Ny196.out]; exact h_) _ (Kd.C_drop (m := ((ji29) : Int).toNat) (c := co18) ((Kd.R_reads' (show Kd.R k34 34 ((w46.setCell ⟨gb201, 0, none⟩ (.int .i64 ((rd_T34 y196 x43_3).f0))).setCell ⟨gb201, 1, none⟩ (.int .i64 ((rd_T34 y196 x43_3).f1))) w.heap.size (fun k_ => k_ ≠ gb183 ∧ k_ ≠ gb184 ∧ k_ ≠ gb191 ∧ k_ ≠ gb192 ∧ k_ ≠ gb195 ∧ k_ ≠ gb201) (.slice (some ad189) t186.length co18) t186 from by (with_reducible repeat (first | apply Kd.R_alloc | apply Kd.R_drewN | apply Kd.R_drew)); exact Kd.R_mono (Kd.R_far (p := ⟨gb201, 1, none⟩) (Kd.R_far (p := ⟨gb201, 0, none⟩) (Kd.R_mono HO_6.out (fun k_ hk => (⟨hk, hk.2⟩ : _ ∧ k_ ≠ gb201))) (fun _ hk => hk.2) (.int .i64 ((rd_T34 y196 x43_3).f0))) (fun _ hk => hk.2) (.int .i64 ((rd_T34 y196 x43_3).f1))) (fun _ hk => ⟨hk.1.1.1, ⟨hk.1.1.2.1, ⟨hk.1.1.2.2.1, ⟨hk.1.1.2.2.2.1, ⟨hk.1.1.2.2.2.2, hk.1.2⟩⟩⟩⟩⟩))).2.2) KL39.out ((Kd.R_reads' (show Kd.R k34 34 ((w46.setCell ⟨gb201, 0, none⟩ (.int .i64 ((rd_T34 y196 x43_3).f0))).setCell ⟨gb201, 1, none⟩ (.int .i64 ((rd_T34 y196 x43_3).f1))) w.heap.size (fun k_ => k_ ≠ gb183 ∧ k_ ≠ gb184 ∧ k_ ≠ gb191 ∧ k_ ≠ gb192 ∧ k_ ≠ gb195 ∧ k_ ≠ gb201) (.slice (some ad189) t186.length co18) t186 from by (with_reducible repeat (first | apply Kd.R_alloc | apply Kd.R_drewN | apply Kd.R_drew)); exact Kd.R_mono (Kd.R_far (p := ⟨gb201, 1, none⟩) (Kd.R_far (p := ⟨gb201, 0, none⟩) (Kd.R_mono HO_6.out (fun k_ hk => (⟨hk, hk.2⟩ : _ ∧ k_ ≠ gb201))) (fun _ hk => hk.2) (.int .i64 ((rd_T34 y196 x43_3).f0))) (fun _ hk => hk.2) (.int .i64 ((rd_T34 y196 x43_3).f1))) (fun _ hk => ⟨hk.1.1.1, ⟨hk.1.1.2.1, ⟨hk.1.1.2.2.1, ⟨hk.1.1.2.2.2.1, ⟨hk.1.1.2.2.2.2, hk.1.2⟩⟩⟩⟩⟩))).2.1)))))⟩; have n3_ : Aside0 (w53.heap[gb183]? = some (.cells #[.int .i64 0, .int .i64 0] 34 (0, 0))) := ⟨(by rw [hw]; exact (bf2_ BK183 NB183_201))⟩; have n4_ : Aside0 (w53.heap[gb184]? = some (.cells #[.int .i64 0, .int .i64 0] 34 (0, 0))) := ⟨(by rw [hw]; exact (bf2_ BK184 NB184_201))⟩; have n5_ : Aside0 (w53.heap[gb191]? = some (.cells #[.int .i64 x192000_3, .int .i64 x192001_3] 34 (0, 0))) := ⟨(by rw [hw]; exact (bf2_ BK191 NB191_201))⟩; have n6_ : Aside0 (w53.heap[gb192]? = some (.cells #[.int .i64 x193000_3, .int .i64 x193001_3] 34 (0, 0))) := ⟨(by rw [hw]; exact (bf2_ BK192 NB192_201))⟩; have n7_ : Aside0 (w53.heap[gb195]? = some (.cells #[.int .i64 ((rd_T34 t186 x33_2).f0), .int .i64 ((rd_T34 t186 x33_2).f1)] 34 (0, 0))) := ⟨(by rw [hw]; exact (bf2_ BK195 NB195_201))⟩; have n8_ : Aside0 (w53.heap[gb201]? = some (.cells #[.int .i64 ((rd_T34 y196 x43_3).f0), .int .i64 ((rd_T34 y196 x43_3).f1)] 34 (0, 0))) := ⟨(by rw [hw]; exact (by (with_reducible repeat (first | refine blk_drewN ?_ _ | refine blk_drew ?_ | refine blk_alloc ?_ _)); refine blk_put (cs := #[.int .i64 ((rd_T34 y196 x43_3).f0), .int .i64 0]) ?_ 1 _ rfl; (with_reducible repeat (first | refine blk_drewN ?_ _ | refine blk_drew ?_ | refine blk_alloc ?_ _)); refine blk_put (cs := #[.int .i64 0, .int .i64 0]) ?_ 0 _ rfl; (with_reducible repeat (first | refine blk_drewN ?_ _ | refine blk_drew ?_ | refine blk_alloc ?_ _)); exact BK201.out))⟩; have n9_ : Aside0 (Below w.heap.size w w53) := ⟨(by rw [hw]; exact (hbg_))⟩; clear hw; clear HO_6; clear HO_31; clear HR199; clear BK183; clear BK184; clear BK191; clear BK192; clear BK195; clear BK201; clear HB; have HO_6 := n0_; have HO_31 := n1_; have HR199 := n2_; have BK183 := n3_; have BK184 := n4_; have BK191 := n5_; have BK192 := n6_; have BK195 := n7_; have BK201 := n8_; have HB := n9_; clear n0_ n1_ n2_ n3_ n4_ n5_ n6_ n7_ n8_ n9_))
                                      have n0_ := Aside0.mk (Kd.R_drew HO_6.out)
                                      have n1_ := Aside0.mk (Kd.R_drew HO_31.out)
                                      have n2_ := Aside0.mk (blk_drew BK183.out)
                                      have n3_ := Aside0.mk (blk_drew BK184.out)
                                      have n4_ := Aside0.mk (blk_drew BK191.out)
                                      have n5_ := Aside0.mk (blk_drew BK192.out)
                                      have n6_ := Aside0.mk (blk_drew BK195.out)
                                      have n7_ := Aside0.mk (blk_drew BK201.out)
                                      have n8_ := Aside0.mk (Kd.C_drew HR199.out)
                                      have n9_ := Aside0.mk (below_drew1 HB.out)
                                      clear HO_6
                                      clear HO_31
                                      clear BK183
                                      clear BK184
                                      clear BK191
                                      clear BK192
                                      clear BK195
                                      clear BK201
                                      clear HR199
                                      clear HB
                                      have HO_6 := n0_
                                      have HO_31 := n1_
                                      have BK183 := n2_
                                      have BK184 := n3_
                                      have BK191 := n4_
                                      have BK192 := n5_
                                      have BK195 := n6_
                                      have BK201 := n7_
                                      have HR199 := n8_
                                      have HB := n9_
                                      clear n0_ n1_ n2_ n3_ n4_ n5_ n6_ n7_ n8_ n9_
                                      refine start_ (n := 7) (S := fun w' => w'.cell? ⟨gb195, 0, none⟩ = some (.int .i64 ((rd_T34 t186 x33_2).f0)) ∧ w'.cell? ⟨gb195, 1, none⟩ = some (.int .i64 ((rd_T34 t186 x33_2).f1)) ∧ w'.cell? ⟨gb201, 0, none⟩ = some (.int .i64 ((rd_T34 y196 x43_3).f0)) ∧ w'.cell? ⟨gb201, 1, none⟩ = some (.int .i64 ((rd_T34 y196 x43_3).f1)) ∧ w'.cell? ⟨gb191, 0, none⟩ = some (.int .i64 x192000_3) ∧ w'.cell? ⟨gb191, 1, none⟩ = some (.int .i64 x192001_3) ∧ w'.cell? ⟨gb192, 0, none⟩ = some (.int .i64 x193000_3) ∧ w'.cell? ⟨gb192, 1, none⟩ = some (.int .i64 x193001_3)) (ds := []) #[false, false, false, false, false, false, false] (by kernel_rfl) rfl rfl ⟨(blk_cell BK195.out 0).trans rfl, (blk_cell BK195.out 1).trans rfl, (blk_cell BK201.out 0).trans rfl, (blk_cell BK201.out 1).trans rfl, (blk_cell BK191.out 0).trans rfl, (blk_cell BK191.out 1).trans rfl, (blk_cell BK192.out 0).trans rfl, (blk_cell BK192.out 1).trans rfl⟩ (fun hHeld => ?_)
                                      generalize w53.drew = w54 at HO_6 HO_31 BK183 BK184 BK191 BK192 BK195 BK201 HR199 HB hHeld ⊢
                                      refine take_ (i := 0) (N := some 47) (v := ?_) (a' := ?_) #[true, false, false, false, false, false, false] rfl rfl (by kernel_rfl) (fun _ _ _ h => h) (Or.inl ⟨by rfl, ?_⟩) hHeld ?_ ?_
                                      rotate_left
                                      · rintro w' ⟨s0, s1, s2, s3, s4, s5, s6, s7⟩
                                        go_simp
                                        with_reducible rfl
                                      rotate_left
                                      · simp only [Act.put, sA, sB, sC, i64_w, i32_w]
                                        rfl
                                      refine take_ (i := 1) (N := some 48) (v := ?_) (a' := ?_) #[true, true, false, false, false, false, false] rfl rfl (by kernel_rfl) (fun _ _ _ h => h) (Or.inl ⟨by rfl, ?_⟩) hHeld ?_ ?_
                                      rotate_left
                                      · rintro w' ⟨s0, s1, s2, s3, s4, s5, s6, s7⟩
                                        go_simp
                                        with_reducible rfl
                                      rotate_left
                                      · simp only [Act.put, sA, sB, sC, i64_w, i32_w]
                                        rfl
                                      refine take_ (i := 3) (N := some 50) (v := ?_) (a' := ?_) #[true, true, false, true, false, false, false] rfl rfl (by kernel_rfl) (fun _ _ _ h => h) (Or.inl ⟨by rfl, ?_⟩) hHeld ?_ ?_
                                      rotate_left
                                      · rintro w' ⟨s0, s1, s2, s3, s4, s5, s6, s7⟩
                                        go_simp
                                        with_reducible rfl
                                      rotate_left
                                      · simp only [Act.put, sA, sB, sC, i64_w, i32_w]
                                        rfl
                                      refine take_ (i := 4) (N := some 51) (v := ?_) (a' := ?_) #[true, true, false, true, true, false, false] rfl rfl (by kernel_rfl) (fun _ _ _ h => h) (Or.inl ⟨by rfl, ?_⟩) hHeld ?_ ?_
                                      rotate_left
                                      · rintro w' ⟨s0, s1, s2, s3, s4, s5, s6, s7⟩
                                        go_simp
                                        with_reducible rfl
                                      rotate_left
                                      · simp only [Act.put, sA, sB, sC, i64_w, i32_w]
                                        rfl
                                      refine one_ (i := 2) (N := some 49) #[true, true, true, true, true, false, false] rfl rfl (by kernel_rfl) (by decide) (fun K hK => ?_)
                                      refine goes_ Try.func60 (by kernel_rfl) rfl #[.agg #[.int .i64 ((rd_T34 t186 x33_2).f0), .int .i64 ((rd_T34 t186 x33_2).f1)], .agg #[.int .i64 ((rd_T34 y196 x43_3).f0), .int .i64 ((rd_T34 y196 x43_3).f1)]] (by rfl) rfl rfl ga_ ?_
                                      with_reducible refine (spec_bdFar.calls ((rd_T34 t186 x33_2).f0) ((rd_T34 t186 x33_2).f1) ((rd_T34 y196 x43_3).f0) ((rd_T34 y196 x43_3).f1) t202 _ A43.out).mono ?_
                                      rintro e w55 ⟨rfl, hb⟩
                                      refine ⟨_, rfl, ?_⟩
                                      have n0_ := Aside0.mk (Kd.R_below (rk_ HO_6.out) hb)
                                      have n1_ := Aside0.mk (Kd.R_below (rk_ HO_31.out) hb)
                                      have n2_ := bb_ BK183 hb
                                      have n3_ := bb_ BK184 hb
                                      have n4_ := bb_ BK191 hb
                                      have n5_ := bb_ BK192 hb
                                      have n6_ := bb_ BK195 hb
                                      have n7_ := Aside0.mk (Kd.C_below (by repeat (first | (with_reducible exact HR199.out) | (with_reducible refine Kd.C_alloc ?_ _) | (with_reducible refine Kd.C_drewN ?_ _) | (with_reducible refine Kd.C_drew ?_) | exact HR199.out)) hb)
                                      have n8_ := bb_ BK201 hb
                                      have n9_ := Aside0.mk (below_step (hbg_) hb)
                                      clear HO_6
                                      clear HO_31
                                      clear BK183
                                      clear BK184
                                      clear BK191
                                      clear BK192
                                      clear BK195
                                      clear HR199
                                      clear BK201
                                      clear HB
                                      have HO_6 := n0_
                                      have HO_31 := n1_
                                      have BK183 := n2_
                                      have BK184 := n3_
                                      have BK191 := n4_
                                      have BK192 := n5_
                                      have BK195 := n6_
                                      have HR199 := n7_
                                      have BK201 := n8_
                                      have HB := n9_
                                      clear n0_ n1_ n2_ n3_ n4_ n5_ n6_ n7_ n8_ n9_
                                      (try clear hb)
                                      (try clear hb2)
                                      (try clear hk)
                                      (try clear hi)
                                      refine hK.out _ _ ⟨(blk_cell BK195.out 0).trans rfl, (blk_cell BK195.out 1).trans rfl, (blk_cell BK201.out 0).trans rfl, (blk_cell BK201.out 1).trans rfl, (blk_cell BK191.out 0).trans rfl, (blk_cell BK191.out 1).trans rfl, (blk_cell BK192.out 0).trans rfl, (blk_cell BK192.out 1).trans rfl⟩ (fun hHeld => ?_)
                                      clear hK K
                                      refine norm_ (a' := ?_) ?_ ?_
                                      rotate_left
                                      · show Act.put _ (some 49) _ = _
                                        simp only [Act.put, sA, sB, sC, i64_w, i32_w]
                                        rfl
                                      refine one_ (i := 5) (N := some 52) #[true, true, true, true, true, true, false] rfl rfl (by kernel_rfl) (by decide) (fun K hK => ?_)
                                      refine goes_ Try.func60 (by kernel_rfl) rfl #[.agg #[.int .i64 x192000_3, .int .i64 x192001_3], .agg #[.int .i64 x193000_3, .int .i64 x193001_3]] (by rfl) rfl rfl ga_ ?_
                                      with_reducible refine (spec_bdFar.calls x192000_3 x192001_3 x193000_3 x193001_3 t203 _ A44.out).mono ?_
                                      rintro e w56 ⟨rfl, hb⟩
                                      refine ⟨_, rfl, ?_⟩
                                      have n0_ := Aside0.mk (Kd.R_below (rk_ HO_6.out) hb)
                                      have n1_ := Aside0.mk (Kd.R_below (rk_ HO_31.out) hb)
                                      have n2_ := bb_ BK183 hb
                                      have n3_ := bb_ BK184 hb
                                      have n4_ := bb_ BK191 hb
                                      have n5_ := bb_ BK192 hb
                                      have n6_ := bb_ BK195 hb
                                      have n7_ := Aside0.mk (Kd.C_below (by repeat (first | (with_reducible exact HR199.out) | (with_reducible refine Kd.C_alloc ?_ _) | (with_reducible refine Kd.C_drewN ?_ _) | (with_reducible refine Kd.C_drew ?_) | exact HR199.out)) hb)
                                      have n8_ := bb_ BK201 hb
                                      have n9_ := Aside0.mk (below_step (hbg_) hb)
                                      clear HO_6
                                      clear HO_31
                                      clear BK183
                                      clear BK184
                                      clear BK191
                                      clear BK192
                                      clear BK195
                                      clear HR199
                                      clear BK201
                                      clear HB
                                      have HO_6 := n0_
                                      have HO_31 := n1_
                                      have BK183 := n2_
                                      have BK184 := n3_
                                      have BK191 := n4_
                                      have BK192 := n5_
                                      have BK195 := n6_
                                      have HR199 := n7_
                                      have BK201 := n8_
                                      have HB := n9_
                                      clear n0_ n1_ n2_ n3_ n4_ n5_ n6_ n7_ n8_ n9_
                                      (try clear hb)
                                      (try clear hb2)
                                      (try clear hk)
                                      (try clear hi)
                                      refine hK.out _ _ ⟨(blk_cell BK195.out 0).trans rfl, (blk_cell BK195.out 1).trans rfl, (blk_cell BK201.out 0).trans rfl, (blk_cell BK201.out 1).trans rfl, (blk_cell BK191.out 0).trans rfl, (blk_cell BK191.out 1).trans rfl, (blk_cell BK192.out 0).trans rfl, (blk_cell BK192.out 1).trans rfl⟩ (fun hHeld => ?_)
                                      clear hK K
                                      refine norm_ (a' := ?_) ?_ ?_
                                      rotate_left
                                      · show Act.put _ (some 52) _ = _
                                        simp only [Act.put, sA, sB, sC, i64_w, i32_w]
                                        rfl
                                      refine pure_ (i := 6) (N := some 53) (v := ?_) (a' := ?_) #[true, true, true, true, true, true, true] rfl rfl (by kernel_rfl) (fun _ _ _ h => h) (Or.inl ⟨by rfl, ?_⟩) ?_ ?_
                                      rotate_left
                                      · intro w'
                                        go_simp
                                        with_reducible rfl
                                      rotate_left
                                      · simp only [Act.put, sA, sB, sC, i64_w, i32_w]
                                        rfl
                                      refine done_ (by kernel_rfl) ?_
                                      have hnb57 := NB195_183.out
                                      have hnc57 := NB183_195.out
                                      have hnb58 := NB195_184.out
                                      have hnc58 := NB184_195.out
                                      have hnb59 := NB195_191.out
                                      have hnc59 := NB191_195.out
                                      have hnb60 := NB195_192.out
                                      have hnc60 := NB192_195.out
                                      have hcz61_0 : w56.cell? ⟨gb195, 0, none⟩ = some (.int .i64 ((rd_T34 t186 x33_2).f0)) := (blk_cell BK195.out 0).trans rfl
                                      have hcz61_1 : w56.cell? ⟨gb195, 1, none⟩ = some (.int .i64 ((rd_T34 t186 x33_2).f1)) := (blk_cell BK195.out 1).trans rfl
                                      have hfz61_0 := blk_frozen BK195.out 0
                                      have hfz61_1 := blk_frozen BK195.out 1
                                      have hnb62 := NB191_183.out
                                      have hnc62 := NB183_191.out
                                      have hnb63 := NB191_184.out
                                      have hnc63 := NB184_191.out
                                      have hnb64 := NB191_192.out
                                      have hnc64 := NB192_191.out
                                      have hcz65_0 : w56.cell? ⟨gb191, 0, none⟩ = some (.int .i64 x192000_3) := (blk_cell BK191.out 0).trans rfl
                                      have hcz65_1 : w56.cell? ⟨gb191, 1, none⟩ = some (.int .i64 x192001_3) := (blk_cell BK191.out 1).trans rfl
                                      have hfz65_0 := blk_frozen BK191.out 0
                                      have hfz65_1 := blk_frozen BK191.out 1
                                      have hcz66_0 : w56.cell? ⟨gb201, 0, none⟩ = some (.int .i64 ((rd_T34 y196 x43_3).f0)) := (blk_cell BK201.out 0).trans rfl
                                      have hcz66_1 : w56.cell? ⟨gb201, 1, none⟩ = some (.int .i64 ((rd_T34 y196 x43_3).f1)) := (blk_cell BK201.out 1).trans rfl
                                      have hfz66_0 := blk_frozen BK201.out 0
                                      have hfz66_1 := blk_frozen BK201.out 1
                                      have hnb67 := NB192_183.out
                                      have hnc67 := NB183_192.out
                                      have hnb68 := NB192_184.out
                                      have hnc68 := NB184_192.out
                                      have hcz69_0 : w56.cell? ⟨gb192, 0, none⟩ = some (.int .i64 x193000_3) := (blk_cell BK192.out 0).trans rfl
                                      have hcz69_1 : w56.cell? ⟨gb192, 1, none⟩ = some (.int .i64 x193001_3) := (blk_cell BK192.out 1).trans rfl
                                      have hfz69_0 := blk_frozen BK192.out 0
                                      have hfz69_1 := blk_frozen BK192.out 1
                                      try go_wp2
                                      go_roundg k3
                                      case measure => have := HJ1.out; have := HK2.out; have := HK3.out; omega
                                      case rel => exact ⟨(wrap64 (x43_3 + 1)), (((rd_T34 t186 x33_2).f0)), (((rd_T34 t186 x33_2).f1)), ((rd_T34 y196 x43_3).f0), ((rd_T34 y196 x43_3).f1), (by first | rfl | (simp; done) | (simp [*]; done)), H', ⟨by have := HJ1.out; have := HK2.out; have := HK3.out; omega⟩, ⟨by (with_reducible repeat (first | apply Kd.R_alloc | apply Kd.R_drewN | apply Kd.R_drew)); exact Kd.R_mono (Kd.R_far (p := ⟨gb192, 1, none⟩) (Kd.R_far (p := ⟨gb192, 0, none⟩) (Kd.R_far (p := ⟨gb191, 1, none⟩) (Kd.R_far (p := ⟨gb191, 0, none⟩) (Kd.R_mono (Kd.R_mono HO_6.out (fun k_ hk => (⟨hk, hk.2.2.1⟩ : _ ∧ k_ ≠ gb191))) (fun k_ hk => (⟨hk, hk.1.2.2.2.1⟩ : _ ∧ k_ ≠ gb192))) (fun _ hk => hk.1.2) (.int .i64 ((rd_T34 t186 x33_2).f0))) (fun _ hk => hk.1.2) (.int .i64 ((rd_T34 t186 x33_2).f1))) (fun _ hk => hk.2) (.int .i64 ((rd_T34 y196 x43_3).f0))) (fun _ hk => hk.2) (.int .i64 ((rd_T34 y196 x43_3).f1))) (fun _ hk => ⟨hk.1.1.1, ⟨hk.1.1.2.1, ⟨hk.1.1.2.2.1, ⟨hk.1.1.2.2.2.1, hk.1.1.2.2.2.2.1⟩⟩⟩⟩)⟩, ⟨by (with_reducible repeat (first | apply Kd.R_alloc | apply Kd.R_drewN | apply Kd.R_drew)); exact Kd.R_mono (Kd.R_far (p := ⟨gb192, 1, none⟩) (Kd.R_far (p := ⟨gb192, 0, none⟩) (Kd.R_far (p := ⟨gb191, 1, none⟩) (Kd.R_far (p := ⟨gb191, 0, none⟩) (Kd.R_mono (Kd.R_mono HO_31.out (fun k_ hk => (⟨hk, hk.2.2.1⟩ : _ ∧ k_ ≠ gb191))) (fun k_ hk => (⟨hk, hk.1.2.2.2.1⟩ : _ ∧ k_ ≠ gb192))) (fun _ hk => hk.1.2) (.int .i64 ((rd_T34 t186 x33_2).f0))) (fun _ hk => hk.1.2) (.int .i64 ((rd_T34 t186 x33_2).f1))) (fun _ hk => hk.2) (.int .i64 ((rd_T34 y196 x43_3).f0))) (fun _ hk => hk.2) (.int .i64 ((rd_T34 y196 x43_3).f1))) (fun _ hk => ⟨hk.1.1.1, ⟨hk.1.1.2.1, ⟨hk.1.1.2.2.1, ⟨hk.1.1.2.2.2.1, hk.1.1.2.2.2.2.1⟩⟩⟩⟩)⟩, ⟨by (with_reducible repeat (first | refine blk_drewN ?_ _ | refine blk_drew ?_ | refine blk_alloc ?_ _)); refine blk_far ?_ NB183_192.out _; (with_reducible repeat (first | refine blk_drewN ?_ _ | refine blk_drew ?_ | refine blk_alloc ?_ _)); refine blk_far ?_ NB183_192.out _; (with_reducible repeat (first | refine blk_drewN ?_ _ | refine blk_drew ?_ | refine blk_alloc ?_ _)); refine blk_far ?_ NB183_191.out _; (with_reducible repeat (first | refine blk_drewN ?_ _ | refine blk_drew ?_ | refine blk_alloc ?_ _)); refine blk_far ?_ NB183_191.out _; (with_reducible repeat (first | refine blk_drewN ?_ _ | refine blk_drew ?_ | refine blk_alloc ?_ _)); exact BK183.out⟩, ⟨by (with_reducible repeat (first | refine blk_drewN ?_ _ | refine blk_drew ?_ | refine blk_alloc ?_ _)); refine blk_far ?_ NB184_192.out _; (with_reducible repeat (first | refine blk_drewN ?_ _ | refine blk_drew ?_ | refine blk_alloc ?_ _)); refine blk_far ?_ NB184_192.out _; (with_reducible repeat (first | refine blk_drewN ?_ _ | refine blk_drew ?_ | refine blk_alloc ?_ _)); refine blk_far ?_ NB184_191.out _; (with_reducible repeat (first | refine blk_drewN ?_ _ | refine blk_drew ?_ | refine blk_alloc ?_ _)); refine blk_far ?_ NB184_191.out _; (with_reducible repeat (first | refine blk_drewN ?_ _ | refine blk_drew ?_ | refine blk_alloc ?_ _)); exact BK184.out⟩, ⟨by (with_reducible repeat (first | refine blk_drewN ?_ _ | refine blk_drew ?_ | refine blk_alloc ?_ _)); refine blk_far ?_ NB191_192.out _; (with_reducible repeat (first | refine blk_drewN ?_ _ | refine blk_drew ?_ | refine blk_alloc ?_ _)); refine blk_far ?_ NB191_192.out _; (with_reducible repeat (first | refine blk_drewN ?_ _ | refine blk_drew ?_ | refine blk_alloc ?_ _)); refine blk_put (cs := #[.int .i64 ((rd_T34 t186 x33_2).f0), .int .i64 x192001_3]) ?_ 1 _ rfl; (with_reducible repeat (first | refine blk_drewN ?_ _ | refine blk_drew ?_ | refine blk_alloc ?_ _)); refine blk_put (cs := #[.int .i64 x192000_3, .int .i64 x192001_3]) ?_ 0 _ rfl; (with_reducible repeat (first | refine blk_drewN ?_ _ | refine blk_drew ?_ | refine blk_alloc ?_ _)); exact BK191.out⟩, ⟨by (with_reducible repeat (first | refine blk_drewN ?_ _ | refine blk_drew ?_ | refine blk_alloc ?_ _)); refine blk_put (cs := #[.int .i64 ((rd_T34 y196 x43_3).f0), .int .i64 x193001_3]) ?_ 1 _ rfl; (with_reducible repeat (first | refine blk_drewN ?_ _ | refine blk_drew ?_ | refine blk_alloc ?_ _)); refine blk_put (cs := #[.int .i64 x193000_3, .int .i64 x193001_3]) ?_ 0 _ rfl; (with_reducible repeat (first | refine blk_drewN ?_ _ | refine blk_drew ?_ | refine blk_alloc ?_ _)); refine blk_far ?_ NB192_191.out _; (with_reducible repeat (first | refine blk_drewN ?_ _ | refine blk_drew ?_ | refine blk_alloc ?_ _)); refine blk_far ?_ NB192_191.out _; (with_reducible repeat (first | refine blk_drewN ?_ _ | refine blk_drew ?_ | refine blk_alloc ?_ _)); exact BK192.out⟩, ⟨by (with_reducible repeat (first | refine blk_drewN ?_ _ | refine blk_drew ?_ | refine blk_alloc ?_ _)); refine blk_far ?_ NB195_192.out _; (with_reducible repeat (first | refine blk_drewN ?_ _ | refine blk_drew ?_ | refine blk_alloc ?_ _)); refine blk_far ?_ NB195_192.out _; (with_reducible repeat (first | refine blk_drewN ?_ _ | refine blk_drew ?_ | refine blk_alloc ?_ _)); refine blk_far ?_ NB195_191.out _; (with_reducible repeat (first | refine blk_drewN ?_ _ | refine blk_drew ?_ | refine blk_alloc ?_ _)); refine blk_far ?_ NB195_191.out _; (with_reducible repeat (first | refine blk_drewN ?_ _ | refine blk_drew ?_ | refine blk_alloc ?_ _)); exact BK195.out⟩, ⟨by rw [KA39.out]; exact (show ∀ W_ : World, Kd.C k34 W_ _ (t186.drop ((ji29) : Int).toNat).length (t186.drop ((ji29) : Int).toNat) → Kd.C k34 W_ _ y196.length y196 from fun W_ h_ => by rw [Ny196.out]; exact h_) _ (Kd.C_drop (m := ((ji29) : Int).toNat) (c := co18) ((Kd.R_reads' (by (with_reducible repeat (first | apply Kd.R_alloc | apply Kd.R_drewN | apply Kd.R_drew)); exact (Kd.R_mono (Kd.R_far (p := ⟨gb192, 1, none⟩) (Kd.R_far (p := ⟨gb192, 0, none⟩) (Kd.R_far (p := ⟨gb191, 1, none⟩) (Kd.R_far (p := ⟨gb191, 0, none⟩) (Kd.R_mono (Kd.R_mono HO_6.out (fun k_ hk => (⟨hk, hk.2.2.1⟩ : _ ∧ k_ ≠ gb191))) (fun k_ hk => (⟨hk, hk.1.2.2.2.1⟩ : _ ∧ k_ ≠ gb192))) (fun _ hk => hk.1.2) (.int .i64 ((rd_T34 t186 x33_2).f0))) (fun _ hk => hk.1.2) (.int .i64 ((rd_T34 t186 x33_2).f1))) (fun _ hk => hk.2) (.int .i64 ((rd_T34 y196 x43_3).f0))) (fun _ hk => hk.2) (.int .i64 ((rd_T34 y196 x43_3).f1))) (fun _ h_ => h_.1.1)))).2.2) KL39.out ((Kd.R_reads' HO_6.out).2.1))⟩, ⟨hbg_⟩⟩
                                    · rw [if_neg c45] at H
                                      have c45b0 : decide (t203 < t202) = false := decide_eq_false c45
                                      clear c45
                                      have H' := Aside0.mk H
                                      clear H
                                      have p200 : 0 ≤ (x43_3 : Int) := odt_
                                      have q200 : x43_3 < (y196.length : Int) := odt_
                                      obtain ⟨ad200, e200, hx200_0, hx200_1⟩ := at_T34 (by repeat (first | (with_reducible exact HR199.out) | (with_reducible refine Kd.C_alloc ?_ _) | (with_reducible refine Kd.C_drewN ?_ _) | (with_reducible refine Kd.C_drew ?_) | exact HR199.out)) x43_3 p200 q200
                                      cases e200
                                      replace p200 := eq_true p200
                                      replace q200 := eq_true q200
                                      try go_wp2_with (first | ((with_reducible refine gate_dst (N := 12) rfl ?_); (try (refine gate_guard (by rfl) ?_; dsimp only)); refine box_event ?hg (N := 12) ?hd (cs := #[.int .i64 0, .int .i64 0]) (t := 34) ?hr ?_; (case hd => rfl); (case hg => rfl); (case hr => first | (go_simp; done) | (go_simp; rfl)); intro gb201 hg w70 hbox hb; have n0_ := Aside0.mk (Kd.R_below (Kd.R_elderB (rk_ HO_6.out) gb201 (Nat.le_of_eq hg.symm)) hb); have n1_ := Aside0.mk (Kd.R_below (Kd.R_elderB (rk_ HO_31.out) gb201 (Nat.le_of_eq hg.symm)) hb); have n2_ := bb_ BK183 hb; have n3_ := bb_ BK184 hb; have n4_ := bb_ BK191 hb; have n5_ := bb_ BK192 hb; have n6_ := bb_ BK195 hb; have n7_ := Aside0.mk (Kd.C_below (by repeat (first | (with_reducible exact HR199.out) | (with_reducible refine Kd.C_alloc ?_ _) | (with_reducible refine Kd.C_drewN ?_ _) | (with_reducible refine Kd.C_drew ?_) | exact HR199.out)) hb); have n8_ := Aside0.mk (below_step (hbg_) hb); have n9_ := Aside0.mk (hbox); have n10_ := Aside0.mk ((by rw [hg]; exact (below_size (hbg_)) : w.heap.size ≤ gb201)); have n11_ := Aside0.mk ((by rw [hg]; exact (below_size (hbg_)) : w.heap.size ≤ gb201)); have n12_ := Aside0.mk ((by rw [hg]; exact Nat.ne_of_lt (blk_lt (bk_ BK183.out)) : gb183 ≠ gb201)); have n13_ := Aside0.mk ((by rw [hg]; exact Nat.ne_of_gt (blk_lt (bk_ BK183.out)) : gb201 ≠ gb183)); have n14_ := Aside0.mk ((by rw [hg]; exact Nat.ne_of_lt (blk_lt (bk_ BK184.out)) : gb184 ≠ gb201)); have n15_ := Aside0.mk ((by rw [hg]; exact Nat.ne_of_gt (blk_lt (bk_ BK184.out)) : gb201 ≠ gb184)); have n16_ := Aside0.mk ((by rw [hg]; exact Nat.ne_of_lt (blk_lt (bk_ BK191.out)) : gb191 ≠ gb201)); have n17_ := Aside0.mk ((by rw [hg]; exact Nat.ne_of_gt (blk_lt (bk_ BK191.out)) : gb201 ≠ gb191)); have n18_ := Aside0.mk ((by rw [hg]; exact Nat.ne_of_lt (blk_lt (bk_ BK192.out)) : gb192 ≠ gb201)); have n19_ := Aside0.mk ((by rw [hg]; exact Nat.ne_of_gt (blk_lt (bk_ BK192.out)) : gb201 ≠ gb192)); have n20_ := Aside0.mk ((by rw [hg]; exact Nat.ne_of_lt (blk_lt (bk_ BK195.out)) : gb195 ≠ gb201)); have n21_ := Aside0.mk ((by rw [hg]; exact Nat.ne_of_gt (blk_lt (bk_ BK195.out)) : gb201 ≠ gb195)); clear HO_6; clear HO_31; clear BK183; clear BK184; clear BK191; clear BK192; clear BK195; clear HR199; clear HB; have HO_6 := n0_; have HO_31 := n1_; have BK183 := n2_; have BK184 := n3_; have BK191 := n4_; have BK192 := n5_; have BK195 := n6_; have HR199 := n7_; have HB := n8_; have BK201 := n9_; have GW201 := n10_; have GE201 := n11_; have NB183_201 := n12_; have NB201_183 := n13_; have NB184_201 := n14_; have NB201_184 := n15_; have NB191_201 := n16_; have NB201_191 := n17_; have NB192_201 := n18_; have NB201_192 := n19_; have NB195_201 := n20_; have NB201_195 := n21_; clear n0_ n1_ n2_ n3_ n4_ n5_ n6_ n7_ n8_ n9_ n10_ n11_ n12_ n13_ n14_ n15_ n16_ n17_ n18_ n19_ n20_ n21_; clear hb hbox hg; have hnb71 := NB201_183.out; have hnc71 := NB183_201.out; have hnb72 := NB201_184.out; have hnc72 := NB184_201.out; have hnb73 := NB201_191.out; have hnc73 := NB191_201.out; have hnb74 := NB201_192.out; have hnc74 := NB192_201.out; have hnb75 := NB201_195.out; have hnc75 := NB195_201.out; have hcz76_0 : w70.cell? ⟨gb201, 0, none⟩ = some (.int .i64 0) := (blk_cell BK201.out 0).trans rfl; have hcz76_1 : w70.cell? ⟨gb201, 1, none⟩ = some (.int .i64 0) := (blk_cell BK201.out 1).trans rfl; have hfz76_0 := blk_frozen BK201.out 0; have hfz76_1 := blk_frozen BK201.out 1) | ((with_reducible refine gate_store (t := 34) (p := 12) rfl ?_); refine store_event (t := 34) (p := 12) (v := ?vo_w77) (w1 := ((w70.setCell ⟨gb201, 0, none⟩ (.int .i64 ((rd_T34 y196 x43_3).f0))).setCell ⟨gb201, 1, none⟩ (.int .i64 ((rd_T34 y196 x43_3).f1)))) ?hg ?ho ?hn ?hr ?_; (case ho => rfl); (case hg => rfl); (case hn => rfl); (case hr => first | (go_simp; done) | (go_simp; rfl)); intro w77 hw; have n0_ : Aside0 (Kd.R k34 34 w77 w.heap.size (fun k_ => k_ ≠ gb183 ∧ k_ ≠ gb184 ∧ k_ ≠ gb191 ∧ k_ ≠ gb192 ∧ k_ ≠ gb195 ∧ k_ ≠ gb201) (.slice (some ad189) t186.length co18) t186) := ⟨(by rw [hw]; exact (by (with_reducible repeat (first | apply Kd.R_alloc | apply Kd.R_drewN | apply Kd.R_drew)); exact Kd.R_mono (Kd.R_far (p := ⟨gb201, 1, none⟩) (Kd.R_far (p := ⟨gb201, 0, none⟩) (Kd.R_mono HO_6.out (fun k_ hk => (⟨hk, hk.2⟩ : _ ∧ k_ ≠ gb201))) (fun _ hk => hk.2) (.int .i64 ((rd_T34 y196 x43_3).f0))) (fun _ hk => hk.2) (.int .i64 ((rd_T34 y196 x43_3).f1))) (fun _ hk => ⟨hk.1.1.1, ⟨hk.1.1.2.1, ⟨hk.1.1.2.2.1, ⟨hk.1.1.2.2.2.1, ⟨hk.1.1.2.2.2.2, hk.1.2⟩⟩⟩⟩⟩)))⟩; have n1_ : Aside0 (Kd.R k34 34 w77 w.heap.size (fun k_ => k_ ≠ gb183 ∧ k_ ≠ gb184 ∧ k_ ≠ gb191 ∧ k_ ≠ gb192 ∧ k_ ≠ gb195 ∧ k_ ≠ gb201) (.slice (some ad189) t186.length co18) t186) := ⟨(by rw [hw]; exact (by (with_reducible repeat (first | apply Kd.R_alloc | apply Kd.R_drewN | apply Kd.R_drew)); exact Kd.R_mono (Kd.R_far (p := ⟨gb201, 1, none⟩) (Kd.R_far (p := ⟨gb201, 0, none⟩) (Kd.R_mono HO_31.out (fun k_ hk => (⟨hk, hk.2⟩ : _ ∧ k_ ≠ gb201))) (fun _ hk => hk.2) (.int .i64 ((rd_T34 y196 x43_3).f0))) (fun _ hk => hk.2) (.int .i64 ((rd_T34 y196 x43_3).f1))) (fun _ hk => ⟨hk.1.1.1, ⟨hk.1.1.2.1, ⟨hk.1.1.2.2.1, ⟨hk.1.1.2.2.2.1, ⟨hk.1.1.2.2.2.2, hk.1.2⟩⟩⟩⟩⟩)))⟩; have n2_ : Aside0 (Kd.C k34 w77 (some ad200) y196.length y196) := ⟨(by rw [hw]; exact ((by rw [KA39.out]; exact (show ∀ W_ : World, Kd.C k34 W_ _ (t186.drop ((ji29) : Int).toNat).length (t186.drop ((ji29) : Int).toNat) → Kd.C k34 W_ _ y196.length y196 from fun W_ h_ => by rw [Ny196.out]; exact h_) _ (Kd.C_drop (m := ((ji29) : Int).toNat) (c := co18) ((Kd.R_reads' (show Kd.R k34 34 ((w70.setCell ⟨gb201, 0, none⟩ (.int .i64 ((rd_T34 y196 x43_3).f0))).setCell ⟨gb201, 1, none⟩ (.int .i64 ((rd_T34 y196 x43_3).f1))) w.heap.size (fun k_ => k_ ≠ gb183 ∧ k_ ≠ gb184 ∧ k_ ≠ gb191 ∧ k_ ≠ gb192 ∧ k_ ≠ gb195 ∧ k_ ≠ gb201) (.slice (some ad189) t186.length co18) t186 from by (with_reducible repeat (first | apply Kd.R_alloc | apply Kd.R_drewN | apply Kd.R_drew)); exact Kd.R_mono (Kd.R_far (p := ⟨gb201, 1, none⟩) (Kd.R_far (p := ⟨gb201, 0, none⟩) (Kd.R_mono HO_6.out (fun k_ hk => (⟨hk, hk.2⟩ : _ ∧ k_ ≠ gb201))) (fun _ hk => hk.2) (.int .i64 ((rd_T34 y196 x43_3).f0))) (fun _ hk => hk.2) (.int .i64 ((rd_T34 y196 x43_3).f1))) (fun _ hk => ⟨hk.1.1.1, ⟨hk.1.1.2.1, ⟨hk.1.1.2.2.1, ⟨hk.1.1.2.2.2.1, ⟨hk.1.1.2.2.2.2, hk.1.2⟩⟩⟩⟩⟩))).2.2) KL39.out ((Kd.R_reads' (show Kd.R k34 34 ((w70.setCell ⟨gb201, 0, none⟩ (.int .i64 ((rd_T34 y196 x43_3).f0))).setCell ⟨gb201, 1, none⟩ (.int .i64 ((rd_T34 y196 x43_3).f1))) w.heap.size (fun k_ => k_ ≠ gb183 ∧ k_ ≠ gb184 ∧ k_ ≠ gb191 ∧ k_ ≠ gb192 ∧ k_ ≠ gb195 ∧ k_ ≠ gb201) (.slice (some ad189) t186.length co18) t186 from by (with_reducible repeat (first | apply Kd.R_alloc | apply Kd.R_drewN | apply Kd.R_drew)); exact Kd.R_mono (Kd.R_far (p := ⟨gb201, 1, none⟩) (Kd.R_far (p := ⟨gb201, 0, none⟩) (Kd.R_mono HO_6.out (fun k_ hk => (⟨hk, hk.2⟩ : _ ∧ k_ ≠ gb201))) (fun _ hk => hk.2) (.int .i64 ((rd_T34 y196 x43_3).f0))) (fun _ hk => hk.2) (.int .i64 ((rd_T34 y196 x43_3).f1))) (fun _ hk => ⟨hk.1.1.1, ⟨hk.1.1.2.1, ⟨hk.1.1.2.2.1, ⟨hk.1.1.2.2.2.1, ⟨hk.1.1.2.2.2.2, hk.1.2⟩⟩⟩⟩⟩))).2.1)))))⟩; have n3_ : Aside0 (w77.heap[gb183]? = some (.cells #[.int .i64 0, .int .i64 0] 34 (0, 0))) := ⟨(by rw [hw]; exact (bf2_ BK183 NB183_201))⟩; have n4_ : Aside0 (w77.heap[gb184]? = some (.cells #[.int .i64 0, .int .i64 0] 34 (0, 0))) := ⟨(by rw [hw]; exact (bf2_ BK184 NB184_201))⟩; have n5_ : Aside0 (w77.heap[gb191]? = some (.cells #[.int .i64 x192000_3, .int .i64 x192001_3] 34 (0, 0))) := ⟨(by rw [hw]; exact (bf2_ BK191 NB191_201))⟩; have n6_ : Aside0 (w77.heap[gb192]? = some (.cells #[.int .i64 x193000_3, .int .i64 x193001_3] 34 (0, 0))) := ⟨(by rw [hw]; exact (bf2_ BK192 NB192_201))⟩; have n7_ : Aside0 (w77.heap[gb195]? = some (.cells #[.int .i64 ((rd_T34 t186 x33_2).f0), .int .i64 ((rd_T34 t186 x33_2).f1)] 34 (0, 0))) := ⟨(by rw [hw]; exact (bf2_ BK195 NB195_201))⟩; have n8_ : Aside0 (w77.heap[gb201]? = some (.cells #[.int .i64 ((rd_T34 y196 x43_3).f0), .int .i64 ((rd_T34 y196 x43_3).f1)] 34 (0, 0))) := ⟨(by rw [hw]; exact (by (with_reducible repeat (first | refine blk_drewN ?_ _ | refine blk_drew ?_ | refine blk_alloc ?_ _)); refine blk_put (cs := #[.int .i64 ((rd_T34 y196 x43_3).f0), .int .i64 0]) ?_ 1 _ rfl; (with_reducible repeat (first | refine blk_drewN ?_ _ | refine blk_drew ?_ | refine blk_alloc ?_ _)); refine blk_put (cs := #[.int .i64 0, .int .i64 0]) ?_ 0 _ rfl; (with_reducible repeat (first | refine blk_drewN ?_ _ | refine blk_drew ?_ | refine blk_alloc ?_ _)); exact BK201.out))⟩; have n9_ : Aside0 (Below w.heap.size w w77) := ⟨(by rw [hw]; exact (hbg_))⟩; clear hw; clear HO_6; clear HO_31; clear HR199; clear BK183; clear BK184; clear BK191; clear BK192; clear BK195; clear BK201; clear HB; have HO_6 := n0_; have HO_31 := n1_; have HR199 := n2_; have BK183 := n3_; have BK184 := n4_; have BK191 := n5_; have BK192 := n6_; have BK195 := n7_; have BK201 := n8_; have HB := n9_; clear n0_ n1_ n2_ n3_ n4_ n5_ n6_ n7_ n8_ n9_))
                                      have n0_ := Aside0.mk (Kd.R_drew HO_6.out)
                                      have n1_ := Aside0.mk (Kd.R_drew HO_31.out)
                                      have n2_ := Aside0.mk (blk_drew BK183.out)
                                      have n3_ := Aside0.mk (blk_drew BK184.out)
                                      have n4_ := Aside0.mk (blk_drew BK191.out)
                                      have n5_ := Aside0.mk (blk_drew BK192.out)
                                      have n6_ := Aside0.mk (blk_drew BK195.out)
                                      have n7_ := Aside0.mk (blk_drew BK201.out)
                                      have n8_ := Aside0.mk (Kd.C_drew HR199.out)
                                      have n9_ := Aside0.mk (below_drew1 HB.out)
                                      clear HO_6
                                      clear HO_31
                                      clear BK183
                                      clear BK184
                                      clear BK191
                                      clear BK192
                                      clear BK195
                                      clear BK201
                                      clear HR199
                                      clear HB
                                      have HO_6 := n0_
                                      have HO_31 := n1_
                                      have BK183 := n2_
                                      have BK184 := n3_
                                      have BK191 := n4_
                                      have BK192 := n5_
                                      have BK195 := n6_
                                      have BK201 := n7_
                                      have HR199 := n8_
                                      have HB := n9_
                                      clear n0_ n1_ n2_ n3_ n4_ n5_ n6_ n7_ n8_ n9_
                                      refine start_ (n := 7) (S := fun w' => w'.cell? ⟨gb195, 0, none⟩ = some (.int .i64 ((rd_T34 t186 x33_2).f0)) ∧ w'.cell? ⟨gb195, 1, none⟩ = some (.int .i64 ((rd_T34 t186 x33_2).f1)) ∧ w'.cell? ⟨gb201, 0, none⟩ = some (.int .i64 ((rd_T34 y196 x43_3).f0)) ∧ w'.cell? ⟨gb201, 1, none⟩ = some (.int .i64 ((rd_T34 y196 x43_3).f1)) ∧ w'.cell? ⟨gb191, 0, none⟩ = some (.int .i64 x192000_3) ∧ w'.cell? ⟨gb191, 1, none⟩ = some (.int .i64 x192001_3) ∧ w'.cell? ⟨gb192, 0, none⟩ = some (.int .i64 x193000_3) ∧ w'.cell? ⟨gb192, 1, none⟩ = some (.int .i64 x193001_3)) (ds := []) #[false, false, false, false, false, false, false] (by kernel_rfl) rfl rfl ⟨(blk_cell BK195.out 0).trans rfl, (blk_cell BK195.out 1).trans rfl, (blk_cell BK201.out 0).trans rfl, (blk_cell BK201.out 1).trans rfl, (blk_cell BK191.out 0).trans rfl, (blk_cell BK191.out 1).trans rfl, (blk_cell BK192.out 0).trans rfl, (blk_cell BK192.out 1).trans rfl⟩ (fun hHeld => ?_)
                                      generalize w77.drew = w78 at HO_6 HO_31 BK183 BK184 BK191 BK192 BK195 BK201 HR199 HB hHeld ⊢
                                      refine take_ (i := 0) (N := some 47) (v := ?_) (a' := ?_) #[true, false, false, false, false, false, false] rfl rfl (by kernel_rfl) (fun _ _ _ h => h) (Or.inl ⟨by rfl, ?_⟩) hHeld ?_ ?_
                                      rotate_left
                                      · rintro w' ⟨s0, s1, s2, s3, s4, s5, s6, s7⟩
                                        go_simp
                                        with_reducible rfl
                                      rotate_left
                                      · simp only [Act.put, sA, sB, sC, i64_w, i32_w]
                                        rfl
                                      refine take_ (i := 1) (N := some 48) (v := ?_) (a' := ?_) #[true, true, false, false, false, false, false] rfl rfl (by kernel_rfl) (fun _ _ _ h => h) (Or.inl ⟨by rfl, ?_⟩) hHeld ?_ ?_
                                      rotate_left
                                      · rintro w' ⟨s0, s1, s2, s3, s4, s5, s6, s7⟩
                                        go_simp
                                        with_reducible rfl
                                      rotate_left
                                      · simp only [Act.put, sA, sB, sC, i64_w, i32_w]
                                        rfl
                                      refine take_ (i := 3) (N := some 50) (v := ?_) (a' := ?_) #[true, true, false, true, false, false, false] rfl rfl (by kernel_rfl) (fun _ _ _ h => h) (Or.inl ⟨by rfl, ?_⟩) hHeld ?_ ?_
                                      rotate_left
                                      · rintro w' ⟨s0, s1, s2, s3, s4, s5, s6, s7⟩
                                        go_simp
                                        with_reducible rfl
                                      rotate_left
                                      · simp only [Act.put, sA, sB, sC, i64_w, i32_w]
                                        rfl
                                      refine take_ (i := 4) (N := some 51) (v := ?_) (a' := ?_) #[true, true, false, true, true, false, false] rfl rfl (by kernel_rfl) (fun _ _ _ h => h) (Or.inl ⟨by rfl, ?_⟩) hHeld ?_ ?_
                                      rotate_left
                                      · rintro w' ⟨s0, s1, s2, s3, s4, s5, s6, s7⟩
                                        go_simp
                                        with_reducible rfl
                                      rotate_left
                                      · simp only [Act.put, sA, sB, sC, i64_w, i32_w]
                                        rfl
                                      refine one_ (i := 2) (N := some 49) #[true, true, true, true, true, false, false] rfl rfl (by kernel_rfl) (by decide) (fun K hK => ?_)
                                      refine goes_ Try.func60 (by kernel_rfl) rfl #[.agg #[.int .i64 ((rd_T34 t186 x33_2).f0), .int .i64 ((rd_T34 t186 x33_2).f1)], .agg #[.int .i64 ((rd_T34 y196 x43_3).f0), .int .i64 ((rd_T34 y196 x43_3).f1)]] (by rfl) rfl rfl ga_ ?_
                                      with_reducible refine (spec_bdFar.calls ((rd_T34 t186 x33_2).f0) ((rd_T34 t186 x33_2).f1) ((rd_T34 y196 x43_3).f0) ((rd_T34 y196 x43_3).f1) t202 _ A43.out).mono ?_
                                      rintro e w79 ⟨rfl, hb⟩
                                      refine ⟨_, rfl, ?_⟩
                                      have n0_ := Aside0.mk (Kd.R_below (rk_ HO_6.out) hb)
                                      have n1_ := Aside0.mk (Kd.R_below (rk_ HO_31.out) hb)
                                      have n2_ := bb_ BK183 hb
                                      have n3_ := bb_ BK184 hb
                                      have n4_ := bb_ BK191 hb
                                      have n5_ := bb_ BK192 hb
                                      have n6_ := bb_ BK195 hb
                                      have n7_ := Aside0.mk (Kd.C_below (by repeat (first | (with_reducible exact HR199.out) | (with_reducible refine Kd.C_alloc ?_ _) | (with_reducible refine Kd.C_drewN ?_ _) | (with_reducible refine Kd.C_drew ?_) | exact HR199.out)) hb)
                                      have n8_ := bb_ BK201 hb
                                      have n9_ := Aside0.mk (below_step (hbg_) hb)
                                      clear HO_6
                                      clear HO_31
                                      clear BK183
                                      clear BK184
                                      clear BK191
                                      clear BK192
                                      clear BK195
                                      clear HR199
                                      clear BK201
                                      clear HB
                                      have HO_6 := n0_
                                      have HO_31 := n1_
                                      have BK183 := n2_
                                      have BK184 := n3_
                                      have BK191 := n4_
                                      have BK192 := n5_
                                      have BK195 := n6_
                                      have HR199 := n7_
                                      have BK201 := n8_
                                      have HB := n9_
                                      clear n0_ n1_ n2_ n3_ n4_ n5_ n6_ n7_ n8_ n9_
                                      (try clear hb)
                                      (try clear hb2)
                                      (try clear hk)
                                      (try clear hi)
                                      refine hK.out _ _ ⟨(blk_cell BK195.out 0).trans rfl, (blk_cell BK195.out 1).trans rfl, (blk_cell BK201.out 0).trans rfl, (blk_cell BK201.out 1).trans rfl, (blk_cell BK191.out 0).trans rfl, (blk_cell BK191.out 1).trans rfl, (blk_cell BK192.out 0).trans rfl, (blk_cell BK192.out 1).trans rfl⟩ (fun hHeld => ?_)
                                      clear hK K
                                      refine norm_ (a' := ?_) ?_ ?_
                                      rotate_left
                                      · show Act.put _ (some 49) _ = _
                                        simp only [Act.put, sA, sB, sC, i64_w, i32_w]
                                        rfl
                                      refine one_ (i := 5) (N := some 52) #[true, true, true, true, true, true, false] rfl rfl (by kernel_rfl) (by decide) (fun K hK => ?_)
                                      refine goes_ Try.func60 (by kernel_rfl) rfl #[.agg #[.int .i64 x192000_3, .int .i64 x192001_3], .agg #[.int .i64 x193000_3, .int .i64 x193001_3]] (by rfl) rfl rfl ga_ ?_
                                      with_reducible refine (spec_bdFar.calls x192000_3 x192001_3 x193000_3 x193001_3 t203 _ A44.out).mono ?_
                                      rintro e w80 ⟨rfl, hb⟩
                                      refine ⟨_, rfl, ?_⟩
                                      have n0_ := Aside0.mk (Kd.R_below (rk_ HO_6.out) hb)
                                      have n1_ := Aside0.mk (Kd.R_below (rk_ HO_31.out) hb)
                                      have n2_ := bb_ BK183 hb
                                      have n3_ := bb_ BK184 hb
                                      have n4_ := bb_ BK191 hb
                                      have n5_ := bb_ BK192 hb
                                      have n6_ := bb_ BK195 hb
                                      have n7_ := Aside0.mk (Kd.C_below (by repeat (first | (with_reducible exact HR199.out) | (with_reducible refine Kd.C_alloc ?_ _) | (with_reducible refine Kd.C_drewN ?_ _) | (with_reducible refine Kd.C_drew ?_) | exact HR199.out)) hb)
                                      have n8_ := bb_ BK201 hb
                                      have n9_ := Aside0.mk (below_step (hbg_) hb)
                                      clear HO_6
                                      clear HO_31
                                      clear BK183
                                      clear BK184
                                      clear BK191
                                      clear BK192
                                      clear BK195
                                      clear HR199
                                      clear BK201
                                      clear HB
                                      have HO_6 := n0_
                                      have HO_31 := n1_
                                      have BK183 := n2_
                                      have BK184 := n3_
                                      have BK191 := n4_
                                      have BK192 := n5_
                                      have BK195 := n6_
                                      have HR199 := n7_
                                      have BK201 := n8_
                                      have HB := n9_
                                      clear n0_ n1_ n2_ n3_ n4_ n5_ n6_ n7_ n8_ n9_
                                      (try clear hb)
                                      (try clear hb2)
                                      (try clear hk)
                                      (try clear hi)
                                      refine hK.out _ _ ⟨(blk_cell BK195.out 0).trans rfl, (blk_cell BK195.out 1).trans rfl, (blk_cell BK201.out 0).trans rfl, (blk_cell BK201.out 1).trans rfl, (blk_cell BK191.out 0).trans rfl, (blk_cell BK191.out 1).trans rfl, (blk_cell BK192.out 0).trans rfl, (blk_cell BK192.out 1).trans rfl⟩ (fun hHeld => ?_)
                                      clear hK K
                                      refine norm_ (a' := ?_) ?_ ?_
                                      rotate_left
                                      · show Act.put _ (some 52) _ = _
                                        simp only [Act.put, sA, sB, sC, i64_w, i32_w]
                                        rfl
                                      refine pure_ (i := 6) (N := some 53) (v := ?_) (a' := ?_) #[true, true, true, true, true, true, true] rfl rfl (by kernel_rfl) (fun _ _ _ h => h) (Or.inl ⟨by rfl, ?_⟩) ?_ ?_
                                      rotate_left
                                      · intro w'
                                        go_simp
                                        with_reducible rfl
                                      rotate_left
                                      · simp only [Act.put, sA, sB, sC, i64_w, i32_w]
                                        rfl
                                      refine done_ (by kernel_rfl) ?_
                                      try go_wp2
                                      go_roundg k3
                                      case measure => have := HJ1.out; have := HK2.out; have := HK3.out; omega
                                      case rel => exact ⟨(wrap64 (x43_3 + 1)), (x192000_3), (x192001_3), (x193000_3), (x193001_3), (by first | rfl | (simp; done) | (simp [*]; done)), H', ⟨by have := HJ1.out; have := HK2.out; have := HK3.out; omega⟩, ⟨by (with_reducible repeat (first | apply Kd.R_alloc | apply Kd.R_drewN | apply Kd.R_drew)); exact Kd.R_mono HO_6.out (fun _ hk => ⟨hk.1, ⟨hk.2.1, ⟨hk.2.2.1, ⟨hk.2.2.2.1, hk.2.2.2.2.1⟩⟩⟩⟩)⟩, ⟨by (with_reducible repeat (first | apply Kd.R_alloc | apply Kd.R_drewN | apply Kd.R_drew)); exact Kd.R_mono HO_31.out (fun _ hk => ⟨hk.1, ⟨hk.2.1, ⟨hk.2.2.1, ⟨hk.2.2.2.1, hk.2.2.2.2.1⟩⟩⟩⟩)⟩, ⟨bk_ BK183.out⟩, ⟨bk_ BK184.out⟩, ⟨bk_ BK191.out⟩, ⟨bk_ BK192.out⟩, ⟨bk_ BK195.out⟩, ⟨by repeat (first | (with_reducible exact HR199.out) | (with_reducible refine Kd.C_alloc ?_ _) | (with_reducible refine Kd.C_drewN ?_ _) | (with_reducible refine Kd.C_drew ?_) | exact HR199.out)⟩, ⟨hbg_⟩⟩
                                  · rw [if_neg c42] at H
                                    exact absurd H (by simp)
                                · rw [if_neg c41] at H
                                  exact absurd H (by simp)
                              · rw [if_neg c40] at H
                                have c40b0 : decide (x43_3 < (y196.length : Int)) = false := decide_eq_false c40
                                clear c40
                                have H' := Aside0.mk H
                                clear H
                                go_wp2
                                go_roundg k3
                                case measure => have := HJ1.out; have := HK2.out; have := HK3.out; omega
                                case rel => exact ⟨(wrap64 (x33_2 + 1)), (x192000_3), (x192001_3), (x193000_3), (x193001_3), (by first | rfl | (simp; done) | (simp [*]; done)), H', ⟨by have := HJ1.out; have := HK2.out; have := HK3.out; omega⟩, ⟨by (with_reducible repeat (first | apply Kd.R_alloc | apply Kd.R_drewN | apply Kd.R_drew)); exact Kd.R_mono HO_6.out (fun _ hk => ⟨hk.1, ⟨hk.2.1, ⟨hk.2.2.1, hk.2.2.2.1⟩⟩⟩)⟩, ⟨by (with_reducible repeat (first | apply Kd.R_alloc | apply Kd.R_drewN | apply Kd.R_drew)); exact Kd.R_mono HO_31.out (fun _ hk => ⟨hk.1, ⟨hk.2.1, ⟨hk.2.2.1, hk.2.2.2.1⟩⟩⟩)⟩, ⟨bk_ BK183.out⟩, ⟨bk_ BK184.out⟩, ⟨bk_ BK191.out⟩, ⟨bk_ BK192.out⟩, ⟨hbg_⟩⟩
                        · rw [if_neg c31] at H
                          exact absurd H (by simp)
                      · rw [if_neg c30] at H
                        exact absurd H (by simp)
                    · rw [if_neg c28] at H
                      exact absurd H (by simp)
                  · rw [if_neg c27] at H
                    exact absurd H (by simp)
                · rw [if_neg c26] at H
                  have c26b0 : decide (x33_2 < (t186.length : Int)) = false := decide_eq_false c26
                  clear c26
                  replace H := Option.bind_eq_some_iff.mp H
                  obtain ⟨t193, A810, H⟩ := H
                  replace H : (some (x192000_2, x192001_2, x193000_2, x193001_2, t193, true)) = some (r1, r2, r3, r4, r5, r6) := H
                  have A81 := Aside0.mk A810
                  clear A810
                  simp only [Option.some.injEq, Prod.mk.injEq] at H
                  obtain ⟨rfl, rfl, rfl, rfl, rfl, rfl⟩ := H
                  try go_wp2
                  have n0_ := Aside0.mk (Kd.R_drew HO_6.out)
                  have n1_ := Aside0.mk (Kd.R_drew HO_31.out)
                  have n2_ := Aside0.mk (blk_drew BK183.out)
                  have n3_ := Aside0.mk (blk_drew BK184.out)
                  have n4_ := Aside0.mk (blk_drew BK191.out)
                  have n5_ := Aside0.mk (blk_drew BK192.out)
                  have n6_ := Aside0.mk (below_drew1 HB.out)
                  clear HO_6
                  clear HO_31
                  clear BK183
                  clear BK184
                  clear BK191
                  clear BK192
                  clear HB
                  have HO_6 := n0_
                  have HO_31 := n1_
                  have BK183 := n2_
                  have BK184 := n3_
                  have BK191 := n4_
                  have BK192 := n5_
                  have HB := n6_
                  clear n0_ n1_ n2_ n3_ n4_ n5_ n6_
                  refine start_ (n := 9) (S := fun w' => w'.cell? ⟨gb191, 0, none⟩ = some (.int .i64 x192000_2) ∧ w'.cell? ⟨gb191, 1, none⟩ = some (.int .i64 x192001_2) ∧ w'.cell? ⟨gb192, 0, none⟩ = some (.int .i64 x193000_2) ∧ w'.cell? ⟨gb192, 1, none⟩ = some (.int .i64 x193001_2)) (ds := []) #[false, false, false, false, false, false, false, false, false] (by kernel_rfl) rfl rfl ⟨(blk_cell BK191.out 0).trans rfl, (blk_cell BK191.out 1).trans rfl, (blk_cell BK192.out 0).trans rfl, (blk_cell BK192.out 1).trans rfl⟩ (fun hHeld => ?_); refine with_tabW spec_FarthestApart.tab16 spec_FarthestApart.bits16 (fun HT_ HW_ => ?_)
                  generalize wr.drew = w82 at HO_6 HO_31 BK183 BK184 BK191 BK192 HB hHeld ⊢
                  refine take_ (i := 0) (N := some 58) (v := ?_) (a' := ?_) #[true, false, false, false, false, false, false, false, false] rfl rfl (take_ofW HT_.out HW_.out (by kernel_rfl)) (fun _ _ _ h => h) (Or.inl ⟨by rfl, ?_⟩) hHeld ?_ ?_
                  rotate_left
                  · rintro w' ⟨s0, s1, s2, s3⟩
                    go_simp
                    with_reducible rfl
                  rotate_left
                  · simp only [Act.put, sA, sB, sC, i64_w, i32_w]
                    rfl
                  refine take_ (i := 1) (N := some 59) (v := ?_) (a' := ?_) #[true, true, false, false, false, false, false, false, false] rfl rfl (take_ofW HT_.out HW_.out (by kernel_rfl)) (fun _ _ _ h => h) (Or.inl ⟨by rfl, ?_⟩) hHeld ?_ ?_
                  rotate_left
                  · rintro w' ⟨s0, s1, s2, s3⟩
                    go_simp
                    with_reducible rfl
                  rotate_left
                  · simp only [Act.put, sA, sB, sC, i64_w, i32_w]
                    rfl
                  refine take_ (i := 2) (N := some 60) (v := ?_) (a' := ?_) #[true, true, true, false, false, false, false, false, false] rfl rfl (take_ofW HT_.out HW_.out (by kernel_rfl)) (fun _ _ _ h => h) (Or.inl ⟨by rfl, ?_⟩) hHeld ?_ ?_
                  rotate_left
                  · rintro w' ⟨s0, s1, s2, s3⟩
                    go_simp
                    with_reducible rfl
                  rotate_left
                  · simp only [Act.put, sA, sB, sC, i64_w, i32_w]
                    rfl
                  refine take_ (i := 3) (N := some 61) (v := ?_) (a' := ?_) #[true, true, true, true, false, false, false, false, false] rfl rfl (take_ofW HT_.out HW_.out (by kernel_rfl)) (fun _ _ _ h => h) (Or.inl ⟨by rfl, ?_⟩) hHeld ?_ ?_
                  rotate_left
                  · rintro w' ⟨s0, s1, s2, s3⟩
                    go_simp
                    with_reducible rfl
                  rotate_left
                  · simp only [Act.put, sA, sB, sC, i64_w, i32_w]
                    rfl
                  refine one_ (i := 4) (N := some 62) #[true, true, true, true, true, false, false, false, false] rfl rfl (one_of HT_.out (by kernel_rfl)) (by decide) (fun K hK => ?_)
                  refine goes_ Try.func60 (by kernel_rfl) rfl #[.agg #[.int .i64 x192000_2, .int .i64 x192001_2], .agg #[.int .i64 x193000_2, .int .i64 x193001_2]] (by rfl) rfl rfl ga_ ?_
                  with_reducible refine (spec_bdFar.calls x192000_2 x192001_2 x193000_2 x193001_2 t193 _ A81.out).mono ?_
                  rintro e w83 ⟨rfl, hb⟩
                  refine ⟨_, rfl, ?_⟩
                  have n0_ := Aside0.mk (Kd.R_below (rk_ HO_6.out) hb)
                  have n1_ := Aside0.mk (Kd.R_below (rk_ HO_31.out) hb)
                  have n2_ := bb_ BK183 hb
                  have n3_ := bb_ BK184 hb
                  have n4_ := bb_ BK191 hb
                  have n5_ := bb_ BK192 hb
                  have n6_ := Aside0.mk (below_step (hbg_) hb)
                  clear HO_6
                  clear HO_31
                  clear BK183
                  clear BK184
                  clear BK191
                  clear BK192
                  clear HB
                  have HO_6 := n0_
                  have HO_31 := n1_
                  have BK183 := n2_
                  have BK184 := n3_
                  have BK191 := n4_
                  have BK192 := n5_
                  have HB := n6_
                  clear n0_ n1_ n2_ n3_ n4_ n5_ n6_
                  (try clear hb)
                  (try clear hb2)
                  (try clear hk)
                  (try clear hi)
                  refine hK.out _ _ ⟨(blk_cell BK191.out 0).trans rfl, (blk_cell BK191.out 1).trans rfl, (blk_cell BK192.out 0).trans rfl, (blk_cell BK192.out 1).trans rfl⟩ (fun hHeld => ?_)
                  clear hK K
                  refine norm_ (a' := ?_) ?_ ?_
                  rotate_left
                  · show Act.put _ (some 62) _ = _
                    simp only [Act.put, sA, sB, sC, i64_w, i32_w]
                    rfl
                  refine one_ (i := 5) (N := none) #[true, true, true, true, true, true, false, false, false] rfl rfl (one_of HT_.out (by kernel_rfl)) (by decide) (fun K hK => ?_)
                  have hs84 : w83.cell? ⟨gb183, 0, none⟩ = some (.int .i64 0) := (blk_cell BK183.out 0).trans rfl
                  have hfs84 := blk_frozen BK183.out 0
                  have hns84_1 := NB184_183.out
                  have hns84_2 := NB191_183.out
                  have hns84_3 := NB192_183.out
                  have hms84_1 := NB183_184.out
                  have hms84_2 := NB183_191.out
                  have hms84_3 := NB183_192.out
                  have hs85 : w83.cell? ⟨gb183, 1, none⟩ = some (.int .i64 0) := (blk_cell BK183.out 1).trans rfl
                  have hfs85 := blk_frozen BK183.out 1
                  have hns85_1 := NB184_183.out
                  have hns85_2 := NB191_183.out
                  have hns85_3 := NB192_183.out
                  have hms85_1 := NB183_184.out
                  have hms85_2 := NB183_191.out
                  have hms85_3 := NB183_192.out
                  refine skip_ (w1 := ?_) (by rfl) rfl ?_ ?_
                  rotate_left
                  · go_simp
                    rfl
                  refine hK.out _ _ ⟨((cell_far (p := ⟨gb183, _, none⟩) NB191_183.out _).trans (((cell_far (p := ⟨gb183, _, none⟩) NB191_183.out _).trans (hHeld.1)))), ((cell_far (p := ⟨gb183, _, none⟩) NB191_183.out _).trans (((cell_far (p := ⟨gb183, _, none⟩) NB191_183.out _).trans (hHeld.2.1)))), ((cell_far (p := ⟨gb183, _, none⟩) NB192_183.out _).trans (((cell_far (p := ⟨gb183, _, none⟩) NB192_183.out _).trans (hHeld.2.2.1)))), ((cell_far (p := ⟨gb183, _, none⟩) NB192_183.out _).trans (((cell_far (p := ⟨gb183, _, none⟩) NB192_183.out _).trans (hHeld.2.2.2))))⟩ (fun hHeld => ?_)
                  clear hK K
                  refine one_ (i := 6) (N := none) #[true, true, true, true, true, true, true, false, false] rfl rfl (one_of HT_.out (by kernel_rfl)) (by decide) (fun K hK => ?_)
                  have hs86 : w83.cell? ⟨gb184, 0, none⟩ = some (.int .i64 0) := (blk_cell BK184.out 0).trans rfl
                  have hfs86 := blk_frozen BK184.out 0
                  have hns86_0 := NB183_184.out
                  have hns86_2 := NB191_184.out
                  have hns86_3 := NB192_184.out
                  have hms86_0 := NB184_183.out
                  have hms86_2 := NB184_191.out
                  have hms86_3 := NB184_192.out
                  have hs87 : w83.cell? ⟨gb184, 1, none⟩ = some (.int .i64 0) := (blk_cell BK184.out 1).trans rfl
                  have hfs87 := blk_frozen BK184.out 1
                  have hns87_0 := NB183_184.out
                  have hns87_2 := NB191_184.out
                  have hns87_3 := NB192_184.out
                  have hms87_0 := NB184_183.out
                  have hms87_2 := NB184_191.out
                  have hms87_3 := NB184_192.out
                  refine skip_ (w1 := ?_) (by rfl) rfl ?_ ?_
                  rotate_left
                  · go_simp
                    rfl
                  refine hK.out _ _ ⟨((cell_far (p := ⟨gb184, _, none⟩) NB191_184.out _).trans (((cell_far (p := ⟨gb184, _, none⟩) NB191_184.out _).trans (hHeld.1)))), ((cell_far (p := ⟨gb184, _, none⟩) NB191_184.out _).trans (((cell_far (p := ⟨gb184, _, none⟩) NB191_184.out _).trans (hHeld.2.1)))), ((cell_far (p := ⟨gb184, _, none⟩) NB192_184.out _).trans (((cell_far (p := ⟨gb184, _, none⟩) NB192_184.out _).trans (hHeld.2.2.1)))), ((cell_far (p := ⟨gb184, _, none⟩) NB192_184.out _).trans (((cell_far (p := ⟨gb184, _, none⟩) NB192_184.out _).trans (hHeld.2.2.2))))⟩ (fun hHeld => ?_)
                  clear hK K
                  refine pure_ (i := 7) (N := some 4) (v := ?_) (a' := ?_) #[true, true, true, true, true, true, true, true, false] rfl rfl (any_of HT_.out (by kernel_rfl)) (fun _ _ _ h => h) (Or.inl ⟨by rfl, ?_⟩) ?_ ?_
                  rotate_left
                  · intro w'
                    go_simp
                    with_reducible rfl
                  rotate_left
                  · simp only [Act.put, sA, sB, sC, i64_w, i32_w]
                    rfl
                  refine pure_ (i := 8) (N := some 5) (v := ?_) (a' := ?_) #[true, true, true, true, true, true, true, true, true] rfl rfl (any_of HT_.out (by kernel_rfl)) (fun _ _ _ h => h) (Or.inl ⟨by rfl, ?_⟩) ?_ ?_
                  rotate_left
                  · intro w'
                    go_simp
                    with_reducible rfl
                  rotate_left
                  · simp only [Act.put, sA, sB, sC, i64_w, i32_w]
                    rfl
                  refine done_ (done_of HT_.out (by kernel_rfl)) ?_
                  try go_wp2
                  refine bodyPost_ret (results_list (rs := [.cell 2 34, .cell 3 34, .tmp 4, .tmp 5]) rfl (by simp) (.cell gb183 34 #[.int .i64 x192000_2, .int .i64 x192001_2] (0, 0) _ rfl (by (with_reducible repeat (first | refine blk_drewN ?_ _ | refine blk_drew ?_ | refine blk_alloc ?_ _)); refine blk_far ?_ NB183_184.out _; (with_reducible repeat (first | refine blk_drewN ?_ _ | refine blk_drew ?_ | refine blk_alloc ?_ _)); refine blk_far ?_ NB183_184.out _; (with_reducible repeat (first | refine blk_drewN ?_ _ | refine blk_drew ?_ | refine blk_alloc ?_ _)); refine blk_put (cs := #[.int .i64 x192000_2, .int .i64 0]) ?_ 1 _ rfl; (with_reducible repeat (first | refine blk_drewN ?_ _ | refine blk_drew ?_ | refine blk_alloc ?_ _)); refine blk_put (cs := #[.int .i64 0, .int .i64 0]) ?_ 0 _ rfl; (with_reducible repeat (first | refine blk_drewN ?_ _ | refine blk_drew ?_ | refine blk_alloc ?_ _)); exact BK183.out) Try.underlying34 rfl (by kernel_rfl) (.cell gb184 34 #[.int .i64 x193000_2, .int .i64 x193001_2] (0, 0) _ rfl (by (with_reducible repeat (first | refine blk_drewN ?_ _ | refine blk_drew ?_ | refine blk_alloc ?_ _)); refine blk_put (cs := #[.int .i64 x193000_2, .int .i64 0]) ?_ 1 _ rfl; (with_reducible repeat (first | refine blk_drewN ?_ _ | refine blk_drew ?_ | refine blk_alloc ?_ _)); refine blk_put (cs := #[.int .i64 0, .int .i64 0]) ?_ 0 _ rfl; (with_reducible repeat (first | refine blk_drewN ?_ _ | refine blk_drew ?_ | refine blk_alloc ?_ _)); refine blk_far ?_ NB184_183.out _; (with_reducible repeat (first | refine blk_drewN ?_ _ | refine blk_drew ?_ | refine blk_alloc ?_ _)); refine blk_far ?_ NB184_183.out _; (with_reducible repeat (first | refine blk_drewN ?_ _ | refine blk_drew ?_ | refine blk_alloc ?_ _)); exact BK184.out) Try.underlying34 rfl (by kernel_rfl) (.tmp (.tmp .nil))))) rfl ?_
                  exact ⟨by first | rfl | (simp [errW_none, errW_some] <;> rfl) | (simp [*, errW_none, errW_some] <;> rfl), hbg_⟩
          · rw [if_neg c15] at H
            exact absurd H (by simp)
        · rw [if_neg c14] at H
          exact absurd H (by simp)

end Go.Proofs.Ytaclbccjcjdbpaa.MF
