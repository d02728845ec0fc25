-- Written by a program of this session (wip/print/myprint.py) over the kit's printer; Lean checks it.
import Derived.Test.YtaclbccjcjdbpaaMFx0
import Derived.Test.YtaclbccjcjdbpaaMFx2
import Derived.Test.YtaclbccjcjdbpaaMFx3
import Derived.Test.YtaclbccjcjdbpaaMFx7
import Derived.Test.YtaclbccjcjdbpaaMFx14
namespace Go.Proofs.Ytaclbccjcjdbpaa.MF
open Go.RowKit Go.Proofs.YtaclbccjcjdbpaaW.PrintWords Go.Proofs.YtaclbccjcjdbpaaW.PrintLast Go.Proofs.YtaclbccjcjdbpaaW.PrintMore Go.Proofs.YtaclbccjcjdbpaaV
attribute [local go_sem] max2_int min2_int max_two min_two max_three min_three max_four min_four   -- for this text's walks alone
set_option linter.unusedVariables false
set_option linter.unusedSimpArgs false

/-! ### laws_FnExactFarthestApart: function 6 -/
def laws_FnExactFarthestApart.j0 : Nat → List (S43) → List (S34) → Bool → Option (Bool)
  | 0, _, _, _ => none
  | k + 1, x0, x8, x54 => if x54 = true then (some false) else ((laws_toPegS.f k x0).bind fun t295 => ((laws_eqPegS.f k x8 t295).bind fun t298 => (if t298 = true then (some true) else (some false))))
def laws_FnExactFarthestApart.f (k : Nat) (l0 : List (S43)) : Option (Bool) := (laws_szPegS.f l0 1048576).bind fun t270 => (if t270 < 0 then (some true) else ((laws_toPegS.f k l0).bind fun t271 => ((spec_FarthestApart.f k t271).bind fun bt274 => ((laws_toPegS.f k l0).bind fun t282 => ((impl_FarthestApart.f k t282).bind fun bt285 => ((laws_eqPeg.f bt285.1 bt285.2.1 bt274.1 bt274.2.1).bind fun t293 => (if t293 = true then ((laws_eqPeg.f bt285.2.2.1 bt285.2.2.2.1 bt274.2.2.1 bt274.2.2.2.1).bind fun t294 => (if t294 = true then (if bt285.2.2.2.2.1 = bt274.2.2.2.2.1 then (laws_FnExactFarthestApart.j0 k l0 t282 (bt285.2.2.2.2.2 != bt274.2.2.2.2.2)) else (laws_FnExactFarthestApart.j0 k l0 t282 true)) else (laws_FnExactFarthestApart.j0 k l0 t282 true))) else (laws_FnExactFarthestApart.j0 k l0 t282 true))))))))
theorem laws_FnExactFarthestApart.mono_l : ∀ k, (∀ y0 y1 y2, LeO (laws_FnExactFarthestApart.j0 k y0 y1 y2) (laws_FnExactFarthestApart.j0 (k + 1) y0 y1 y2))
  | 0 => fun _ _ _ r h => by simp [laws_FnExactFarthestApart.j0] at h
  | k + 1 => by
    have ih0 := laws_FnExactFarthestApart.mono_l k
    · intro y0 y1 y2
      unfold laws_FnExactFarthestApart.j0
      repeat' first
      | (with_reducible exact ih0 _ _ _)
      | (with_reducible exact impl_FarthestApart.mono _ _)
      | (with_reducible exact laws_eqPegS.mono _ _ _)
      | (with_reducible exact laws_toPegS.mono _ _)
      | (with_reducible exact spec_FarthestApart.mono _ _)
      | (with_reducible exact LeO.refl _)
      | (with_reducible exact LeO.none _)
      | (with_reducible refine LeO.ite ?_ ?_)
      | (with_reducible refine LeO.bind ?_ (fun _ => ?_))
      | exact ih0 _ _ _
      | exact impl_FarthestApart.mono _ _
      | exact laws_eqPegS.mono _ _ _
      | exact laws_toPegS.mono _ _
      | exact spec_FarthestApart.mono _ _
      | exact LeO.none _
      | refine LeO.ite ?_ ?_
      | refine LeO.bind ?_ (fun _ => ?_)
theorem laws_FnExactFarthestApart.mono : ∀ a0 k, LeO (laws_FnExactFarthestApart.f k a0) (laws_FnExactFarthestApart.f (k + 1) a0) := by
  intro a0 k
  have ih0 := laws_FnExactFarthestApart.mono_l k
  unfold laws_FnExactFarthestApart.f
  repeat' first
      | (with_reducible exact ih0 _ _ _)
      | (with_reducible exact impl_FarthestApart.mono _ _)
      | (with_reducible exact laws_eqPegS.mono _ _ _)
      | (with_reducible exact laws_toPegS.mono _ _)
      | (with_reducible exact spec_FarthestApart.mono _ _)
      | (with_reducible exact LeO.refl _)
      | (with_reducible exact LeO.none _)
      | (with_reducible refine LeO.ite ?_ ?_)
      | (with_reducible refine LeO.bind ?_ (fun _ => ?_))
      | exact ih0 _ _ _
      | exact impl_FarthestApart.mono _ _
      | exact laws_eqPegS.mono _ _ _
      | exact laws_toPegS.mono _ _
      | exact spec_FarthestApart.mono _ _
      | exact LeO.none _
      | refine LeO.ite ?_ ?_
      | refine LeO.bind ?_ (fun _ => ?_)
set_option maxHeartbeats 8000000 in
set_option maxRecDepth 100000 in
theorem laws_FnExactFarthestApart.calls (k : Nat) (A0 : Option Addr) (c0 : Nat) (l0 : List (S43)) (r : Bool) (w : World) (hr0 : Kd.C k43 w A0 l0.length l0) (hc0 : l0.length ≤ c0) (hr_ : r = true) (h : laws_FnExactFarthestApart.f k l0 = some r) :
    Calls Try.prog 6 #[.slice A0 l0.length c0] w fun e w' => e = .returned (.bool r) ∧ Below w.heap.size w w' := by
  have hu34 := Try.underlying34
  have HR0 := Aside0.mk hr0
  have HC0 := Aside0.mk hc0
  clear hr0 hc0
  have HB := Aside0.mk (Below.refl w.heap.size w)
  have H : ((laws_szPegS.f l0 1048576).bind fun t270 => (if t270 < 0 then (some true) else ((laws_toPegS.f k l0).bind fun t271 => ((spec_FarthestApart.f k t271).bind fun bt274 => ((laws_toPegS.f k l0).bind fun t282 => ((impl_FarthestApart.f k t282).bind fun bt285 => ((laws_eqPeg.f bt285.1 bt285.2.1 bt274.1 bt274.2.1).bind fun t293 => (if t293 = true then ((laws_eqPeg.f bt285.2.2.1 bt285.2.2.2.1 bt274.2.2.1 bt274.2.2.2.1).bind fun t294 => (if t294 = true then (if bt285.2.2.2.2.1 = bt274.2.2.2.2.1 then (laws_FnExactFarthestApart.j0 k l0 t282 (bt285.2.2.2.2.2 != bt274.2.2.2.2.2)) else (laws_FnExactFarthestApart.j0 k l0 t282 true)) else (laws_FnExactFarthestApart.j0 k l0 t282 true))) else (laws_FnExactFarthestApart.j0 k l0 t282 true))))))))) = some r := h
  clear h
  replace H := Option.bind_eq_some_iff.mp H
  obtain ⟨t270, A20, H⟩ := H
  replace H : (if t270 < 0 then (some true) else ((laws_toPegS.f k l0).bind fun t271 => ((spec_FarthestApart.f k t271).bind fun bt274 => ((laws_toPegS.f k l0).bind fun t282 => ((impl_FarthestApart.f k t282).bind fun bt285 => ((laws_eqPeg.f bt285.1 bt285.2.1 bt274.1 bt274.2.1).bind fun t293 => (if t293 = true then ((laws_eqPeg.f bt285.2.2.1 bt285.2.2.2.1 bt274.2.2.1 bt274.2.2.2.1).bind fun t294 => (if t294 = true then (if bt285.2.2.2.2.1 = bt274.2.2.2.2.1 then (laws_FnExactFarthestApart.j0 k l0 t282 (bt285.2.2.2.2.2 != bt274.2.2.2.2.2)) else (laws_FnExactFarthestApart.j0 k l0 t282 true)) else (laws_FnExactFarthestApart.j0 k l0 t282 true))) else (laws_FnExactFarthestApart.j0 k l0 t282 true)))))))) = some r := H
  have A2 := Aside0.mk A20
  clear A20
  by_cases c3 : t270 < 0
  · rw [if_pos c3] at H
    have c3b0 : decide (t270 < 0) = true := decide_eq_true c3
    clear c3
    obtain rfl := Option.some.inj H
    go_enter Try.func6, Try.ntmps6
    go_wp2_with (first | ((with_reducible refine gate_callee (f := 15) rfl ?_); refine goesL_ (some 15) rfl rfl Try.func15 (by kernel_rfl) rfl #[.slice A0 l0.length c0, .int .i64 1048576] rfl ga_ ?_; (with_reducible refine (laws_szPegS.calls _ _ l0 1048576 t270 _ ?side1 ?side2 A2.out).mono ?_); (case side1 => repeat (first | exact HR0.out | (with_reducible refine Kd.C_alloc ?_ _) | (with_reducible refine Kd.C_drewN ?_ _) | (with_reducible refine Kd.C_drew ?_))); (case side2 => exact HC0.out); rintro e w' ⟨rfl, ⟨nd, rfl⟩⟩; refine ⟨_, rfl, ?_⟩))
    go_ret
    exact ⟨by first | rfl | (simp [errW_none, errW_some] <;> rfl) | (simp [*, errW_none, errW_some] <;> rfl), hb_⟩
  · rw [if_neg c3] at H
    have c3b0 : decide (t270 < 0) = false := decide_eq_false c3
    clear c3
    replace H := Option.bind_eq_some_iff.mp H
    obtain ⟨t271, A40, H⟩ := H
    replace H : ((spec_FarthestApart.f k t271).bind fun bt274 => ((laws_toPegS.f k l0).bind fun t282 => ((impl_FarthestApart.f k t282).bind fun bt285 => ((laws_eqPeg.f bt285.1 bt285.2.1 bt274.1 bt274.2.1).bind fun t293 => (if t293 = true then ((laws_eqPeg.f bt285.2.2.1 bt285.2.2.2.1 bt274.2.2.1 bt274.2.2.2.1).bind fun t294 => (if t294 = true then (if bt285.2.2.2.2.1 = bt274.2.2.2.2.1 then (laws_FnExactFarthestApart.j0 k l0 t282 (bt285.2.2.2.2.2 != bt274.2.2.2.2.2)) else (laws_FnExactFarthestApart.j0 k l0 t282 true)) else (laws_FnExactFarthestApart.j0 k l0 t282 true))) else (laws_FnExactFarthestApart.j0 k l0 t282 true)))))) = some r := H
    have A4 := Aside0.mk A40
    clear A40
    replace H := Option.bind_eq_some_iff.mp H
    obtain ⟨⟨t274, t275, t276, t277, t278, t279⟩, A50, H⟩ := H
    replace H : ((laws_toPegS.f k l0).bind fun t282 => ((impl_FarthestApart.f k t282).bind fun bt285 => ((laws_eqPeg.f bt285.1 bt285.2.1 t274 t275).bind fun t293 => (if t293 = true then ((laws_eqPeg.f bt285.2.2.1 bt285.2.2.2.1 t276 t277).bind fun t294 => (if t294 = true then (if bt285.2.2.2.2.1 = t278 then (laws_FnExactFarthestApart.j0 k l0 t282 (bt285.2.2.2.2.2 != t279)) else (laws_FnExactFarthestApart.j0 k l0 t282 true)) else (laws_FnExactFarthestApart.j0 k l0 t282 true))) else (laws_FnExactFarthestApart.j0 k l0 t282 true))))) = some r := H
    have A5 := Aside0.mk A50
    clear A50
    replace H := Option.bind_eq_some_iff.mp H
    obtain ⟨t282, A60, H⟩ := H
    replace H : ((impl_FarthestApart.f k t282).bind fun bt285 => ((laws_eqPeg.f bt285.1 bt285.2.1 t274 t275).bind fun t293 => (if t293 = true then ((laws_eqPeg.f bt285.2.2.1 bt285.2.2.2.1 t276 t277).bind fun t294 => (if t294 = true then (if bt285.2.2.2.2.1 = t278 then (laws_FnExactFarthestApart.j0 k l0 t282 (bt285.2.2.2.2.2 != t279)) else (laws_FnExactFarthestApart.j0 k l0 t282 true)) else (laws_FnExactFarthestApart.j0 k l0 t282 true))) else (laws_FnExactFarthestApart.j0 k l0 t282 true)))) = some r := H
    have A6 := Aside0.mk A60
    clear A60
    replace H := Option.bind_eq_some_iff.mp H
    obtain ⟨⟨t285, t286, t287, t288, t289, t290⟩, A70, H⟩ := H
    replace H : ((laws_eqPeg.f t285 t286 t274 t275).bind fun t293 => (if t293 = true then ((laws_eqPeg.f t287 t288 t276 t277).bind fun t294 => (if t294 = true then (if t289 = t278 then (laws_FnExactFarthestApart.j0 k l0 t282 (t290 != t279)) else (laws_FnExactFarthestApart.j0 k l0 t282 true)) else (laws_FnExactFarthestApart.j0 k l0 t282 true))) else (laws_FnExactFarthestApart.j0 k l0 t282 true))) = some r := H
    have A7 := Aside0.mk A70
    clear A70
    have HC8 := Aside0.mk H
    clear H
    go_enter Try.func6, Try.ntmps6
    go_upto_region 8 with (first | ((with_reducible refine gate_callee (f := 15) rfl ?_); refine goesL_ (some 15) rfl rfl Try.func15 (by kernel_rfl) rfl #[.slice A0 l0.length c0, .int .i64 1048576] rfl ga_ ?_; (with_reducible refine (laws_szPegS.calls _ _ l0 1048576 t270 _ ?side1 ?side2 A2.out).mono ?_); (case side1 => repeat (first | exact HR0.out | (with_reducible refine Kd.C_alloc ?_ _) | (with_reducible refine Kd.C_drewN ?_ _) | (with_reducible refine Kd.C_drew ?_))); (case side2 => exact HC0.out); rintro e w' ⟨rfl, ⟨nd, rfl⟩⟩; refine ⟨_, rfl, ?_⟩) | ((with_reducible refine gate_callee (f := 17) rfl ?_); refine goesL_ (some 20) rfl rfl Try.func17 (by kernel_rfl) rfl #[.slice A0 l0.length c0] rfl ga_ ?_; (with_reducible refine (laws_toPegS.calls k _ _ l0 t271 _ ?side1 ?side2 A4.out).mono ?_); (case side1 => repeat (first | exact HR0.out | (with_reducible refine Kd.C_alloc ?_ _) | (with_reducible refine Kd.C_drewN ?_ _) | (with_reducible refine Kd.C_drew ?_))); (case side2 => exact HC0.out); rintro e w9 ⟨v272, rfl, ho0, hb⟩; refine ⟨_, rfl, ?_⟩; have n0_ := Aside0.mk (Kd.R_lower ho0 (below_size (hb_))); have n1_ := Aside0.mk (below_step (hb_) hb); clear HB; have HO273 := n0_; have HB := n1_; clear n0_ n1_; (try clear hb); (try clear hb2); (try clear hk); (try clear hi); (try clear ho0); obtain ⟨Ao10, co10, eo10⟩ := Kd.R_slice HO273.out; subst eo10) | ((with_reducible refine gate_callee (f := 24) rfl ?_); refine goesL_ (some 21) rfl rfl Try.func24 (by kernel_rfl) rfl #[.slice Ao10 t271.length co10] rfl ga_ ?_; (with_reducible refine (spec_FarthestApart.calls k _ _ t271 t274 t275 t276 t277 t278 t279 _ ?side1 ?side2 A5.out).mono ?_); (case side1 => repeat (first | exact (Kd.R_reads' HO273.out).2.2 | (with_reducible refine Kd.C_alloc ?_ _) | (with_reducible refine Kd.C_drewN ?_ _) | (with_reducible refine Kd.C_drew ?_))); (case side2 => exact (Kd.R_reads' HO273.out).2.1); rintro e w11 ⟨rfl, hb⟩; refine ⟨_, rfl, ?_⟩; have n0_ := Aside0.mk (Kd.R_below (rk_ HO273.out) hb); have n1_ := Aside0.mk (below_step (hb_) hb); clear HO273; clear HB; have HO273 := n0_; have HB := n1_; clear n0_ n1_; (try clear hb); (try clear hb2); (try clear hk); (try clear hi)) | ((with_reducible refine gate_dst (N := 4) rfl ?_); refine box_event ?hg (N := 4) ?hd (cs := #[.int .i64 0, .int .i64 0]) (t := 34) ?hr ?_; (case hd => rfl); (case hg => rfl); (case hr => first | (go_simp; done) | (go_simp; rfl)); intro gb280 hg w12 hbox hb; have n0_ := Aside0.mk (Kd.R_below (Kd.R_elderB (rk_ HO273.out) gb280 (Nat.le_of_eq hg.symm)) hb); have n1_ := Aside0.mk (below_step (hb_) hb); have n2_ := Aside0.mk (hbox); have n3_ := Aside0.mk ((by rw [hg]; exact (below_size (hb_)) : w.heap.size ≤ gb280)); have n4_ := Aside0.mk ((by rw [hg]; exact (below_size (hb_)) : w.heap.size ≤ gb280)); clear HO273; clear HB; have HO273 := n0_; have HB := n1_; have BK280 := n2_; have GW280 := n3_; have GE280 := n4_; clear n0_ n1_ n2_ n3_ n4_; clear hb hbox hg) | ((with_reducible refine gate_dst (N := 5) rfl ?_); refine box_event ?hg (N := 5) ?hd (cs := #[.int .i64 0, .int .i64 0]) (t := 34) ?hr ?_; (case hd => rfl); (case hg => rfl); (case hr => first | (go_simp; done) | (go_simp; rfl)); intro gb281 hg w13 hbox hb; have n0_ := Aside0.mk (Kd.R_below (Kd.R_elderB (rk_ HO273.out) gb281 (Nat.le_of_eq hg.symm)) hb); have n1_ := bb_ BK280 hb; have n2_ := Aside0.mk (below_step (hbg_) hb); have n3_ := Aside0.mk (hbox); have n4_ := Aside0.mk ((by rw [hg]; exact (below_size (hbg_)) : w.heap.size ≤ gb281)); have n5_ := Aside0.mk ((by rw [hg]; exact (below_size (hbg_)) : w.heap.size ≤ gb281)); have n6_ := Aside0.mk ((by rw [hg]; exact Nat.ne_of_lt (blk_lt (bk_ BK280.out)) : gb280 ≠ gb281)); have n7_ := Aside0.mk ((by rw [hg]; exact Nat.ne_of_gt (blk_lt (bk_ BK280.out)) : gb281 ≠ gb280)); clear HO273; clear BK280; clear HB; have HO273 := n0_; have BK280 := n1_; have HB := n2_; have BK281 := n3_; have GW281 := n4_; have GE281 := n5_; have NB280_281 := n6_; have NB281_280 := n7_; clear n0_ n1_ n2_ n3_ n4_ n5_ n6_ n7_; clear hb hbox hg; have hnb14 := NB280_281.out; have hnc14 := NB281_280.out; have hcz15_0 : w13.cell? ⟨gb280, 0, none⟩ = some (.int .i64 0) := (blk_cell BK280.out 0).trans rfl; have hcz15_1 : w13.cell? ⟨gb280, 1, none⟩ = some (.int .i64 0) := (blk_cell BK280.out 1).trans rfl; have hfz15_0 := blk_frozen BK280.out 0; have hfz15_1 := blk_frozen BK280.out 1; have hcz16_0 : w13.cell? ⟨gb281, 0, none⟩ = some (.int .i64 0) := (blk_cell BK281.out 0).trans rfl; have hcz16_1 : w13.cell? ⟨gb281, 1, none⟩ = some (.int .i64 0) := (blk_cell BK281.out 1).trans rfl; have hfz16_0 := blk_frozen BK281.out 0; have hfz16_1 := blk_frozen BK281.out 1) | ((with_reducible refine gate_callee (f := 17) rfl ?_); refine goesL_ (some 27) rfl rfl Try.func17 (by kernel_rfl) rfl #[.slice A0 l0.length c0] rfl ga_ ?_; (with_reducible refine (laws_toPegS.calls k _ _ l0 t282 _ ?side1 ?side2 A6.out).mono ?_); (case side1 => exact Kd.C_below HR0.out (hbg_)); (case side2 => exact HC0.out); rintro e w17 ⟨v283, rfl, ho0, hb⟩; refine ⟨_, rfl, ?_⟩; have n0_ := Aside0.mk (Kd.R_elder' (by (with_reducible repeat (first | apply Kd.R_alloc | apply Kd.R_drewN | apply Kd.R_drew)); exact (Kd.R_mono (Kd.R_far (p := ⟨gb281, 1, none⟩) (Kd.R_far (p := ⟨gb281, 0, none⟩) (Kd.R_far (p := ⟨gb280, 1, none⟩) (Kd.R_far (p := ⟨gb280, 0, none⟩) (Kd.R_mono (Kd.R_mono HO273.out (fun k_ hk => (⟨hk, hk.1.2⟩ : _ ∧ k_ ≠ gb280))) (fun k_ hk => (⟨hk, hk.1.2⟩ : _ ∧ k_ ≠ gb281))) (fun _ hk => hk.1.2) (.int .i64 t274)) (fun _ hk => hk.1.2) (.int .i64 t275)) (fun _ hk => hk.2) (.int .i64 t276)) (fun _ hk => hk.2) (.int .i64 t277)) (fun _ h_ => h_.1.1))) (Kd.R_base ho0) hb); have n1_ := Aside0.mk (Kd.R_lower (Kd.R_newB (Kd.R_newB (Kd.R_new' ho0 (Kd.R_lt (by (with_reducible repeat (first | apply Kd.R_alloc | apply Kd.R_drewN | apply Kd.R_drew)); exact (Kd.R_mono (Kd.R_far (p := ⟨gb281, 1, none⟩) (Kd.R_far (p := ⟨gb281, 0, none⟩) (Kd.R_far (p := ⟨gb280, 1, none⟩) (Kd.R_far (p := ⟨gb280, 0, none⟩) (Kd.R_mono (Kd.R_mono HO273.out (fun k_ hk => (⟨hk, hk.1.2⟩ : _ ∧ k_ ≠ gb280))) (fun k_ hk => (⟨hk, hk.1.2⟩ : _ ∧ k_ ≠ gb281))) (fun _ hk => hk.1.2) (.int .i64 t274)) (fun _ hk => hk.1.2) (.int .i64 t275)) (fun _ hk => hk.2) (.int .i64 t276)) (fun _ hk => hk.2) (.int .i64 t277)) (fun _ h_ => h_.1.1))))) (g := gb280) (o := .cells #[.int .i64 t274, .int .i64 t275] 34 (0, 0)) (by (with_reducible repeat (first | refine blk_drewN ?_ _ | refine blk_drew ?_ | refine blk_alloc ?_ _)); refine blk_far ?_ NB280_281.out _; (with_reducible repeat (first | refine blk_drewN ?_ _ | refine blk_drew ?_ | refine blk_alloc ?_ _)); refine blk_far ?_ NB280_281.out _; (with_reducible repeat (first | refine blk_drewN ?_ _ | refine blk_drew ?_ | refine blk_alloc ?_ _)); refine blk_put (cs := #[.int .i64 t274, .int .i64 0]) ?_ 1 _ rfl; (with_reducible repeat (first | refine blk_drewN ?_ _ | refine blk_drew ?_ | refine blk_alloc ?_ _)); refine blk_put (cs := #[.int .i64 0, .int .i64 0]) ?_ 0 _ rfl; (with_reducible repeat (first | refine blk_drewN ?_ _ | refine blk_drew ?_ | refine blk_alloc ?_ _)); exact BK280.out)) (g := gb281) (o := .cells #[.int .i64 t276, .int .i64 t277] 34 (0, 0)) (by (with_reducible repeat (first | refine blk_drewN ?_ _ | refine blk_drew ?_ | refine blk_alloc ?_ _)); refine blk_put (cs := #[.int .i64 t276, .int .i64 0]) ?_ 1 _ rfl; (with_reducible repeat (first | refine blk_drewN ?_ _ | refine blk_drew ?_ | refine blk_alloc ?_ _)); refine blk_put (cs := #[.int .i64 0, .int .i64 0]) ?_ 0 _ rfl; (with_reducible repeat (first | refine blk_drewN ?_ _ | refine blk_drew ?_ | refine blk_alloc ?_ _)); refine blk_far ?_ NB281_280.out _; (with_reducible repeat (first | refine blk_drewN ?_ _ | refine blk_drew ?_ | refine blk_alloc ?_ _)); refine blk_far ?_ NB281_280.out _; (with_reducible repeat (first | refine blk_drewN ?_ _ | refine blk_drew ?_ | refine blk_alloc ?_ _)); exact BK281.out)) (below_size (hbg_))); have n2_ := Aside0.mk (blk_below (g := gb280) (o := .cells #[.int .i64 t274, .int .i64 t275] 34 (0, 0)) (by (with_reducible repeat (first | refine blk_drewN ?_ _ | refine blk_drew ?_ | refine blk_alloc ?_ _)); refine blk_far ?_ NB280_281.out _; (with_reducible repeat (first | refine blk_drewN ?_ _ | refine blk_drew ?_ | refine blk_alloc ?_ _)); refine blk_far ?_ NB280_281.out _; (with_reducible repeat (first | refine blk_drewN ?_ _ | refine blk_drew ?_ | refine blk_alloc ?_ _)); refine blk_put (cs := #[.int .i64 t274, .int .i64 0]) ?_ 1 _ rfl; (with_reducible repeat (first | refine blk_drewN ?_ _ | refine blk_drew ?_ | refine blk_alloc ?_ _)); refine blk_put (cs := #[.int .i64 0, .int .i64 0]) ?_ 0 _ rfl; (with_reducible repeat (first | refine blk_drewN ?_ _ | refine blk_drew ?_ | refine blk_alloc ?_ _)); exact BK280.out) hb); have n3_ := Aside0.mk (blk_below (g := gb281) (o := .cells #[.int .i64 t276, .int .i64 t277] 34 (0, 0)) (by (with_reducible repeat (first | refine blk_drewN ?_ _ | refine blk_drew ?_ | refine blk_alloc ?_ _)); refine blk_put (cs := #[.int .i64 t276, .int .i64 0]) ?_ 1 _ rfl; (with_reducible repeat (first | refine blk_drewN ?_ _ | refine blk_drew ?_ | refine blk_alloc ?_ _)); refine blk_put (cs := #[.int .i64 0, .int .i64 0]) ?_ 0 _ rfl; (with_reducible repeat (first | refine blk_drewN ?_ _ | refine blk_drew ?_ | refine blk_alloc ?_ _)); refine blk_far ?_ NB281_280.out _; (with_reducible repeat (first | refine blk_drewN ?_ _ | refine blk_drew ?_ | refine blk_alloc ?_ _)); refine blk_far ?_ NB281_280.out _; (with_reducible repeat (first | refine blk_drewN ?_ _ | refine blk_drew ?_ | refine blk_alloc ?_ _)); exact BK281.out) hb); have n4_ := Aside0.mk (below_step (hbg_) hb); clear HO273; clear BK280; clear BK281; clear HB; have HO273 := n0_; have HO284 := n1_; have BK280 := n2_; have BK281 := n3_; have HB := n4_; clear n0_ n1_ n2_ n3_ n4_; (try clear hb); (try clear hb2); (try clear hk); (try clear hi); (try clear ho0); obtain ⟨Ao18, co18, eo18⟩ := Kd.R_slice HO284.out; subst eo18) | ((with_reducible refine gate_callee (f := 25) rfl ?_); refine goesL_ (some 30) rfl rfl Try.func25 (by kernel_rfl) rfl #[.slice Ao18 t282.length co18] rfl ga_ ?_; (with_reducible refine (impl_FarthestApart.calls k _ _ t282 t285 t286 t287 t288 t289 t290 _ ?side1 ?side2 A7.out).mono ?_); (case side1 => repeat (first | exact (Kd.R_reads' HO284.out).2.2 | (with_reducible refine Kd.C_alloc ?_ _) | (with_reducible refine Kd.C_drewN ?_ _) | (with_reducible refine Kd.C_drew ?_))); (case side2 => exact (Kd.R_reads' HO284.out).2.1); rintro e w19 ⟨rfl, hb⟩; refine ⟨_, rfl, ?_⟩; have n0_ := Aside0.mk (Kd.R_below (rk_ HO273.out) hb); have n1_ := Aside0.mk (Kd.R_below (rk_ HO284.out) hb); have n2_ := bb_ BK280 hb; have n3_ := bb_ BK281 hb; have n4_ := Aside0.mk (below_step (hbg_) hb); clear HO273; clear HO284; clear BK280; clear BK281; clear HB; have HO273 := n0_; have HO284 := n1_; have BK280 := n2_; have BK281 := n3_; have HB := n4_; clear n0_ n1_ n2_ n3_ n4_; (try clear hb); (try clear hb2); (try clear hk); (try clear hi)) | ((with_reducible refine gate_dst (N := 9) rfl ?_); refine box_event ?hg (N := 9) ?hd (cs := #[.int .i64 0, .int .i64 0]) (t := 34) ?hr ?_; (case hd => rfl); (case hg => rfl); (case hr => first | (go_simp; done) | (go_simp; rfl)); intro gb291 hg w20 hbox hb; have n0_ := Aside0.mk (Kd.R_below (Kd.R_elderB (rk_ HO273.out) gb291 (Nat.le_of_eq hg.symm)) hb); have n1_ := Aside0.mk (Kd.R_below (Kd.R_elderB (rk_ HO284.out) gb291 (Nat.le_of_eq hg.symm)) hb); have n2_ := bb_ BK280 hb; have n3_ := bb_ BK281 hb; have n4_ := Aside0.mk (below_step (hbg_) hb); have n5_ := Aside0.mk (hbox); have n6_ := Aside0.mk ((by rw [hg]; exact (below_size (hbg_)) : w.heap.size ≤ gb291)); have n7_ := Aside0.mk ((by rw [hg]; exact (below_size (hbg_)) : w.heap.size ≤ gb291)); have n8_ := Aside0.mk ((by rw [hg]; exact Nat.ne_of_lt (blk_lt (bk_ BK280.out)) : gb280 ≠ gb291)); have n9_ := Aside0.mk ((by rw [hg]; exact Nat.ne_of_gt (blk_lt (bk_ BK280.out)) : gb291 ≠ gb280)); have n10_ := Aside0.mk ((by rw [hg]; exact Nat.ne_of_lt (blk_lt (bk_ BK281.out)) : gb281 ≠ gb291)); have n11_ := Aside0.mk ((by rw [hg]; exact Nat.ne_of_gt (blk_lt (bk_ BK281.out)) : gb291 ≠ gb281)); clear HO273; clear HO284; clear BK280; clear BK281; clear HB; have HO273 := n0_; have HO284 := n1_; have BK280 := n2_; have BK281 := n3_; have HB := n4_; have BK291 := n5_; have GW291 := n6_; have GE291 := n7_; have NB280_291 := n8_; have NB291_280 := n9_; have NB281_291 := n10_; have NB291_281 := n11_; clear n0_ n1_ n2_ n3_ n4_ n5_ n6_ n7_ n8_ n9_ n10_ n11_; clear hb hbox hg) | ((with_reducible refine gate_dst (N := 10) rfl ?_); refine box_event ?hg (N := 10) ?hd (cs := #[.int .i64 0, .int .i64 0]) (t := 34) ?hr ?_; (case hd => rfl); (case hg => rfl); (case hr => first | (go_simp; done) | (go_simp; rfl)); intro gb292 hg w21 hbox hb; have n0_ := Aside0.mk (Kd.R_below (Kd.R_elderB (rk_ HO273.out) gb292 (Nat.le_of_eq hg.symm)) hb); have n1_ := Aside0.mk (Kd.R_below (Kd.R_elderB (rk_ HO284.out) gb292 (Nat.le_of_eq hg.symm)) hb); have n2_ := bb_ BK280 hb; have n3_ := bb_ BK281 hb; have n4_ := bb_ BK291 hb; have n5_ := Aside0.mk (below_step (hbg_) hb); have n6_ := Aside0.mk (hbox); have n7_ := Aside0.mk ((by rw [hg]; exact (below_size (hbg_)) : w.heap.size ≤ gb292)); have n8_ := Aside0.mk ((by rw [hg]; exact (below_size (hbg_)) : w.heap.size ≤ gb292)); have n9_ := Aside0.mk ((by rw [hg]; exact Nat.ne_of_lt (blk_lt (bk_ BK280.out)) : gb280 ≠ gb292)); have n10_ := Aside0.mk ((by rw [hg]; exact Nat.ne_of_gt (blk_lt (bk_ BK280.out)) : gb292 ≠ gb280)); have n11_ := Aside0.mk ((by rw [hg]; exact Nat.ne_of_lt (blk_lt (bk_ BK281.out)) : gb281 ≠ gb292)); have n12_ := Aside0.mk ((by rw [hg]; exact Nat.ne_of_gt (blk_lt (bk_ BK281.out)) : gb292 ≠ gb281)); have n13_ := Aside0.mk ((by rw [hg]; exact Nat.ne_of_lt (blk_lt (bk_ BK291.out)) : gb291 ≠ gb292)); have n14_ := Aside0.mk ((by rw [hg]; exact Nat.ne_of_gt (blk_lt (bk_ BK291.out)) : gb292 ≠ gb291)); clear HO273; clear HO284; clear BK280; clear BK281; clear BK291; clear HB; have HO273 := n0_; have HO284 := n1_; have BK280 := n2_; have BK281 := n3_; have BK291 := n4_; have HB := n5_; have BK292 := n6_; have GW292 := n7_; have GE292 := n8_; have NB280_292 := n9_; have NB292_280 := n10_; have NB281_292 := n11_; have NB292_281 := n12_; have NB291_292 := n13_; have NB292_291 := n14_; clear n0_ n1_ n2_ n3_ n4_ n5_ n6_ n7_ n8_ n9_ n10_ n11_ n12_ n13_ n14_; clear hb hbox hg; have hnb22 := NB291_280.out; have hnc22 := NB280_291.out; have hnb23 := NB291_281.out; have hnc23 := NB281_291.out; have hnb24 := NB291_292.out; have hnc24 := NB292_291.out; have hcz25_0 : w21.cell? ⟨gb291, 0, none⟩ = some (.int .i64 0) := (blk_cell BK291.out 0).trans rfl; have hcz25_1 : w21.cell? ⟨gb291, 1, none⟩ = some (.int .i64 0) := (blk_cell BK291.out 1).trans rfl; have hfz25_0 := blk_frozen BK291.out 0; have hfz25_1 := blk_frozen BK291.out 1; have hnb26 := NB292_280.out; have hnc26 := NB280_292.out; have hnb27 := NB292_281.out; have hnc27 := NB281_292.out; have hcz28_0 : w21.cell? ⟨gb292, 0, none⟩ = some (.int .i64 0) := (blk_cell BK292.out 0).trans rfl; have hcz28_1 : w21.cell? ⟨gb292, 1, none⟩ = some (.int .i64 0) := (blk_cell BK292.out 1).trans rfl; have hfz28_0 := blk_frozen BK292.out 0; have hfz28_1 := blk_frozen BK292.out 1))
    (try simp only [Act.put, List.setIfInBounds_toArray, List.set_cons_zero, List.set_cons_succ])
    go_cut [54] (fun v54 wc => ∃ (kq : Nat) (x54_7 : Bool), v54 = .bool x54_7 ∧ Aside0 (laws_FnExactFarthestApart.j0 kq l0 t282 x54_7 = some r) ∧ Aside0 (kq ≤ k) ∧ Aside0 (Kd.R k34 34 wc w.heap.size (fun k_ => k_ ≠ gb280 ∧ k_ ≠ gb281 ∧ k_ ≠ gb291 ∧ k_ ≠ gb292) (.slice Ao18 t282.length co18) t282) ∧ Aside0 (wc.heap[gb280]? = some (.cells #[.int .i64 t274, .int .i64 t275] 34 (0, 0))) ∧ Aside0 (wc.heap[gb281]? = some (.cells #[.int .i64 t276, .int .i64 t277] 34 (0, 0))) ∧ Aside0 (wc.heap[gb291]? = some (.cells #[.int .i64 t285, .int .i64 t286] 34 (0, 0))) ∧ Aside0 (wc.heap[gb292]? = some (.cells #[.int .i64 t287, .int .i64 t288] 34 (0, 0))) ∧ Aside0 (Below w.heap.size w wc))
    case first =>
      have H := HC8.out
      clear HC8
      replace H := Option.bind_eq_some_iff.mp H
      obtain ⟨t293, A290, H⟩ := H
      replace H : (if t293 = true then ((laws_eqPeg.f t287 t288 t276 t277).bind fun t294 => (if t294 = true then (if t289 = t278 then (laws_FnExactFarthestApart.j0 k l0 t282 (t290 != t279)) else (laws_FnExactFarthestApart.j0 k l0 t282 true)) else (laws_FnExactFarthestApart.j0 k l0 t282 true))) else (laws_FnExactFarthestApart.j0 k l0 t282 true)) = some r := H
      have A29 := Aside0.mk A290
      clear A290
      by_cases c30 : t293 = true
      · subst c30
        have H1 : ((laws_eqPeg.f t287 t288 t276 t277).bind fun t294 => (if t294 = true then (if t289 = t278 then (laws_FnExactFarthestApart.j0 k l0 t282 (t290 != t279)) else (laws_FnExactFarthestApart.j0 k l0 t282 true)) else (laws_FnExactFarthestApart.j0 k l0 t282 true))) = some r := by rw [if_pos rfl] at H; exact H
        clear H
        have H := H1
        clear H1
        replace H := Option.bind_eq_some_iff.mp H
        obtain ⟨t294, A310, H⟩ := H
        replace H : (if t294 = true then (if t289 = t278 then (laws_FnExactFarthestApart.j0 k l0 t282 (t290 != t279)) else (laws_FnExactFarthestApart.j0 k l0 t282 true)) else (laws_FnExactFarthestApart.j0 k l0 t282 true)) = some r := H
        have A31 := Aside0.mk A310
        clear A310
        by_cases c32 : t294 = true
        · subst c32
          have H1 : (if t289 = t278 then (laws_FnExactFarthestApart.j0 k l0 t282 (t290 != t279)) else (laws_FnExactFarthestApart.j0 k l0 t282 true)) = some r := by rw [if_pos rfl] at H; exact H
          clear H
          have H := H1
          clear H1
          by_cases c33 : t289 = t278
          · rw [if_pos c33] at H
            have c33b0 : (t289 == t278) = true := beq_iff_eq.mpr c33
            have c33b1 : (t289 != t278) = false := bne_eq_false_iff_eq.mpr c33
            clear c33
            (first | rw [c33b0] | (simp only [i64_w, i32_w]; rw [c33b0]) | skip)
            have H' := Aside0.mk H
            clear H
            have hnb34 := NB291_280.out
            have hnc34 := NB280_291.out
            have hnb35 := NB291_281.out
            have hnc35 := NB281_291.out
            have hnb36 := NB291_292.out
            have hnc36 := NB292_291.out
            have hcz37_0 : w21.cell? ⟨gb291, 0, none⟩ = some (.int .i64 0) := (blk_cell BK291.out 0).trans rfl
            have hcz37_1 : w21.cell? ⟨gb291, 1, none⟩ = some (.int .i64 0) := (blk_cell BK291.out 1).trans rfl
            have hfz37_0 := blk_frozen BK291.out 0
            have hfz37_1 := blk_frozen BK291.out 1
            have hnb38 := NB280_281.out
            have hnc38 := NB281_280.out
            have hnb39 := NB280_292.out
            have hnc39 := NB292_280.out
            have hcz40_0 : w21.cell? ⟨gb280, 0, none⟩ = some (.int .i64 t274) := (blk_cell BK280.out 0).trans rfl
            have hcz40_1 : w21.cell? ⟨gb280, 1, none⟩ = some (.int .i64 t275) := (blk_cell BK280.out 1).trans rfl
            have hfz40_0 := blk_frozen BK280.out 0
            have hfz40_1 := blk_frozen BK280.out 1
            go_wp2_with (first | ((with_reducible refine gate_callee (f := 26) rfl ?_); refine goesL_ (some 37) rfl rfl Try.func26 (by kernel_rfl) rfl #[.agg #[.int .i64 t285, .int .i64 t286], .agg #[.int .i64 t274, .int .i64 t275]] rfl ga_ ?_; (with_reducible refine (laws_eqPeg.calls t285 t286 t274 t275 true _ A29.out).mono ?_); rintro e w41 ⟨rfl, hb⟩; refine ⟨_, rfl, ?_⟩; have n0_ := Aside0.mk (Kd.R_below (by (with_reducible repeat (first | apply Kd.R_alloc | apply Kd.R_drewN | apply Kd.R_drew)); exact (Kd.R_mono (Kd.R_far (p := ⟨gb292, 1, none⟩) (Kd.R_far (p := ⟨gb292, 0, none⟩) (Kd.R_far (p := ⟨gb291, 1, none⟩) (Kd.R_far (p := ⟨gb291, 0, none⟩) (Kd.R_mono (Kd.R_mono HO273.out (fun k_ hk => (⟨hk, hk.1.2⟩ : _ ∧ k_ ≠ gb291))) (fun k_ hk => (⟨hk, hk.1.2⟩ : _ ∧ k_ ≠ gb292))) (fun _ hk => hk.1.2) (.int .i64 t285)) (fun _ hk => hk.1.2) (.int .i64 t286)) (fun _ hk => hk.2) (.int .i64 t287)) (fun _ hk => hk.2) (.int .i64 t288)) (fun _ h_ => h_.1.1))) hb); have n1_ := Aside0.mk (Kd.R_below (by (with_reducible repeat (first | apply Kd.R_alloc | apply Kd.R_drewN | apply Kd.R_drew)); exact (Kd.R_mono (Kd.R_far (p := ⟨gb292, 1, none⟩) (Kd.R_far (p := ⟨gb292, 0, none⟩) (Kd.R_far (p := ⟨gb291, 1, none⟩) (Kd.R_far (p := ⟨gb291, 0, none⟩) (Kd.R_mono (Kd.R_mono HO284.out (fun k_ hk => (⟨hk, hk.1.2⟩ : _ ∧ k_ ≠ gb291))) (fun k_ hk => (⟨hk, hk.1.2⟩ : _ ∧ k_ ≠ gb292))) (fun _ hk => hk.1.2) (.int .i64 t285)) (fun _ hk => hk.1.2) (.int .i64 t286)) (fun _ hk => hk.2) (.int .i64 t287)) (fun _ hk => hk.2) (.int .i64 t288)) (fun _ h_ => h_.1.1))) hb); have n2_ := Aside0.mk (blk_below (g := gb280) (o := .cells #[.int .i64 t274, .int .i64 t275] 34 (0, 0)) (by (with_reducible repeat (first | refine blk_drewN ?_ _ | refine blk_drew ?_ | refine blk_alloc ?_ _)); refine blk_far ?_ NB280_292.out _; (with_reducible repeat (first | refine blk_drewN ?_ _ | refine blk_drew ?_ | refine blk_alloc ?_ _)); refine blk_far ?_ NB280_292.out _; (with_reducible repeat (first | refine blk_drewN ?_ _ | refine blk_drew ?_ | refine blk_alloc ?_ _)); refine blk_far ?_ NB280_291.out _; (with_reducible repeat (first | refine blk_drewN ?_ _ | refine blk_drew ?_ | refine blk_alloc ?_ _)); refine blk_far ?_ NB280_291.out _; (with_reducible repeat (first | refine blk_drewN ?_ _ | refine blk_drew ?_ | refine blk_alloc ?_ _)); exact BK280.out) hb); have n3_ := Aside0.mk (blk_below (g := gb281) (o := .cells #[.int .i64 t276, .int .i64 t277] 34 (0, 0)) (by (with_reducible repeat (first | refine blk_drewN ?_ _ | refine blk_drew ?_ | refine blk_alloc ?_ _)); refine blk_far ?_ NB281_292.out _; (with_reducible repeat (first | refine blk_drewN ?_ _ | refine blk_drew ?_ | refine blk_alloc ?_ _)); refine blk_far ?_ NB281_292.out _; (with_reducible repeat (first | refine blk_drewN ?_ _ | refine blk_drew ?_ | refine blk_alloc ?_ _)); refine blk_far ?_ NB281_291.out _; (with_reducible repeat (first | refine blk_drewN ?_ _ | refine blk_drew ?_ | refine blk_alloc ?_ _)); refine blk_far ?_ NB281_291.out _; (with_reducible repeat (first | refine blk_drewN ?_ _ | refine blk_drew ?_ | refine blk_alloc ?_ _)); exact BK281.out) hb); have n4_ := Aside0.mk (blk_below (g := gb291) (o := .cells #[.int .i64 t285, .int .i64 t286] 34 (0, 0)) (by (with_reducible repeat (first | refine blk_drewN ?_ _ | refine blk_drew ?_ | refine blk_alloc ?_ _)); refine blk_far ?_ NB291_292.out _; (with_reducible repeat (first | refine blk_drewN ?_ _ | refine blk_drew ?_ | refine blk_alloc ?_ _)); refine blk_far ?_ NB291_292.out _; (with_reducible repeat (first | refine blk_drewN ?_ _ | refine blk_drew ?_ | refine blk_alloc ?_ _)); refine blk_put (cs := #[.int .i64 t285, .int .i64 0]) ?_ 1 _ rfl; (with_reducible repeat (first | refine blk_drewN ?_ _ | refine blk_drew ?_ | refine blk_alloc ?_ _)); refine blk_put (cs := #[.int .i64 0, .int .i64 0]) ?_ 0 _ rfl; (with_reducible repeat (first | refine blk_drewN ?_ _ | refine blk_drew ?_ | refine blk_alloc ?_ _)); exact BK291.out) hb); have n5_ := Aside0.mk (blk_below (g := gb292) (o := .cells #[.int .i64 t287, .int .i64 t288] 34 (0, 0)) (by (with_reducible repeat (first | refine blk_drewN ?_ _ | refine blk_drew ?_ | refine blk_alloc ?_ _)); refine blk_put (cs := #[.int .i64 t287, .int .i64 0]) ?_ 1 _ rfl; (with_reducible repeat (first | refine blk_drewN ?_ _ | refine blk_drew ?_ | refine blk_alloc ?_ _)); refine blk_put (cs := #[.int .i64 0, .int .i64 0]) ?_ 0 _ rfl; (with_reducible repeat (first | refine blk_drewN ?_ _ | refine blk_drew ?_ | refine blk_alloc ?_ _)); refine blk_far ?_ NB292_291.out _; (with_reducible repeat (first | refine blk_drewN ?_ _ | refine blk_drew ?_ | refine blk_alloc ?_ _)); refine blk_far ?_ NB292_291.out _; (with_reducible repeat (first | refine blk_drewN ?_ _ | refine blk_drew ?_ | refine blk_alloc ?_ _)); exact BK292.out) hb); have n6_ := Aside0.mk (below_step (hbg_) hb); clear HO273; clear HO284; clear BK280; clear BK281; clear BK291; clear BK292; clear HB; have HO273 := n0_; have HO284 := n1_; have BK280 := n2_; have BK281 := n3_; have BK291 := n4_; have BK292 := n5_; have HB := n6_; clear n0_ n1_ n2_ n3_ n4_ n5_ n6_; (try clear hb); (try clear hb2); (try clear hk); (try clear hi); have hnb42 := NB292_281.out; have hnc42 := NB281_292.out; have hcz43_0 : w41.cell? ⟨gb292, 0, none⟩ = some (.int .i64 t287) := (blk_cell BK292.out 0).trans rfl; have hcz43_1 : w41.cell? ⟨gb292, 1, none⟩ = some (.int .i64 t288) := (blk_cell BK292.out 1).trans rfl; have hfz43_0 := blk_frozen BK292.out 0; have hfz43_1 := blk_frozen BK292.out 1; have hcz44_0 : w41.cell? ⟨gb281, 0, none⟩ = some (.int .i64 t276) := (blk_cell BK281.out 0).trans rfl; have hcz44_1 : w41.cell? ⟨gb281, 1, none⟩ = some (.int .i64 t277) := (blk_cell BK281.out 1).trans rfl; have hfz44_0 := blk_frozen BK281.out 0; have hfz44_1 := blk_frozen BK281.out 1) | (go_at_call 26; (with_reducible refine (laws_eqPeg.calls t287 t288 t276 t277 true _ A31.out).mono ?_); rintro e w45 ⟨rfl, hb⟩; have n0_ := Aside0.mk (Kd.R_below (rk_ HO273.out) hb); have n1_ := Aside0.mk (Kd.R_below (rk_ HO284.out) hb); have n2_ := bb_ BK280 hb; have n3_ := bb_ BK281 hb; have n4_ := bb_ BK291 hb; have n5_ := bb_ BK292 hb; have n6_ := Aside0.mk (below_step (hbg_) hb); clear HO273; clear HO284; clear BK280; clear BK281; clear BK291; clear BK292; clear HB; have HO273 := n0_; have HO284 := n1_; have BK280 := n2_; have BK281 := n3_; have BK291 := n4_; have BK292 := n5_; have HB := n6_; clear n0_ n1_ n2_ n3_ n4_ n5_ n6_; (try clear hb); (try clear hb2); (try clear hk); (try clear hi)))
            go_meet
            case rel => exact ⟨_, ((t290 != t279)), (by first | rfl | (simp; done) | (simp [*]; done)), H', ⟨by first | omega | exact Nat.le_refl _⟩, ⟨by (with_reducible repeat (first | apply Kd.R_alloc | apply Kd.R_drewN | apply Kd.R_drew)); exact Kd.R_mono HO284.out (fun _ hk => ⟨hk.1.1.1.2, ⟨hk.1.1.2, ⟨hk.1.2, hk.2⟩⟩⟩)⟩, ⟨bk_ BK280.out⟩, ⟨bk_ BK281.out⟩, ⟨bk_ BK291.out⟩, ⟨bk_ BK292.out⟩, ⟨hbg_⟩⟩
          · rw [if_neg c33] at H
            have c33b0 : (t289 == t278) = false := beq_eq_false_iff_ne.mpr c33
            have c33b1 : (t289 != t278) = true := bne_iff_ne.mpr c33
            (first | rw [c33b0] | (simp only [i64_w, i32_w]; rw [c33b0]) | skip)
            have H' := Aside0.mk H
            clear H
            have hnb46 := NB291_280.out
            have hnc46 := NB280_291.out
            have hnb47 := NB291_281.out
            have hnc47 := NB281_291.out
            have hnb48 := NB291_292.out
            have hnc48 := NB292_291.out
            have hcz49_0 : w21.cell? ⟨gb291, 0, none⟩ = some (.int .i64 0) := (blk_cell BK291.out 0).trans rfl
            have hcz49_1 : w21.cell? ⟨gb291, 1, none⟩ = some (.int .i64 0) := (blk_cell BK291.out 1).trans rfl
            have hfz49_0 := blk_frozen BK291.out 0
            have hfz49_1 := blk_frozen BK291.out 1
            have hnb50 := NB280_281.out
            have hnc50 := NB281_280.out
            have hnb51 := NB280_292.out
            have hnc51 := NB292_280.out
            have hcz52_0 : w21.cell? ⟨gb280, 0, none⟩ = some (.int .i64 t274) := (blk_cell BK280.out 0).trans rfl
            have hcz52_1 : w21.cell? ⟨gb280, 1, none⟩ = some (.int .i64 t275) := (blk_cell BK280.out 1).trans rfl
            have hfz52_0 := blk_frozen BK280.out 0
            have hfz52_1 := blk_frozen BK280.out 1
            go_wp2_with (first | ((with_reducible refine gate_callee (f := 26) rfl ?_); refine goesL_ (some 37) rfl rfl Try.func26 (by kernel_rfl) rfl #[.agg #[.int .i64 t285, .int .i64 t286], .agg #[.int .i64 t274, .int .i64 t275]] rfl ga_ ?_; (with_reducible refine (laws_eqPeg.calls t285 t286 t274 t275 true _ A29.out).mono ?_); rintro e w53 ⟨rfl, hb⟩; refine ⟨_, rfl, ?_⟩; have n0_ := Aside0.mk (Kd.R_below (by (with_reducible repeat (first | apply Kd.R_alloc | apply Kd.R_drewN | apply Kd.R_drew)); exact (Kd.R_mono (Kd.R_far (p := ⟨gb292, 1, none⟩) (Kd.R_far (p := ⟨gb292, 0, none⟩) (Kd.R_far (p := ⟨gb291, 1, none⟩) (Kd.R_far (p := ⟨gb291, 0, none⟩) (Kd.R_mono (Kd.R_mono HO273.out (fun k_ hk => (⟨hk, hk.1.2⟩ : _ ∧ k_ ≠ gb291))) (fun k_ hk => (⟨hk, hk.1.2⟩ : _ ∧ k_ ≠ gb292))) (fun _ hk => hk.1.2) (.int .i64 t285)) (fun _ hk => hk.1.2) (.int .i64 t286)) (fun _ hk => hk.2) (.int .i64 t287)) (fun _ hk => hk.2) (.int .i64 t288)) (fun _ h_ => h_.1.1))) hb); have n1_ := Aside0.mk (Kd.R_below (by (with_reducible repeat (first | apply Kd.R_alloc | apply Kd.R_drewN | apply Kd.R_drew)); exact (Kd.R_mono (Kd.R_far (p := ⟨gb292, 1, none⟩) (Kd.R_far (p := ⟨gb292, 0, none⟩) (Kd.R_far (p := ⟨gb291, 1, none⟩) (Kd.R_far (p := ⟨gb291, 0, none⟩) (Kd.R_mono (Kd.R_mono HO284.out (fun k_ hk => (⟨hk, hk.1.2⟩ : _ ∧ k_ ≠ gb291))) (fun k_ hk => (⟨hk, hk.1.2⟩ : _ ∧ k_ ≠ gb292))) (fun _ hk => hk.1.2) (.int .i64 t285)) (fun _ hk => hk.1.2) (.int .i64 t286)) (fun _ hk => hk.2) (.int .i64 t287)) (fun _ hk => hk.2) (.int .i64 t288)) (fun _ h_ => h_.1.1))) hb); have n2_ := Aside0.mk (blk_below (g := gb280) (o := .cells #[.int .i64 t274, .int .i64 t275] 34 (0, 0)) (by (with_reducible repeat (first | refine blk_drewN ?_ _ | refine blk_drew ?_ | refine blk_alloc ?_ _)); refine blk_far ?_ NB280_292.out _; (with_reducible repeat (first | refine blk_drewN ?_ _ | refine blk_drew ?_ | refine blk_alloc ?_ _)); refine blk_far ?_ NB280_292.out _; (with_reducible repeat (first | refine blk_drewN ?_ _ | refine blk_drew ?_ | refine blk_alloc ?_ _)); refine blk_far ?_ NB280_291.out _; (with_reducible repeat (first | refine blk_drewN ?_ _ | refine blk_drew ?_ | refine blk_alloc ?_ _)); refine blk_far ?_ NB280_291.out _; (with_reducible repeat (first | refine blk_drewN ?_ _ | refine blk_drew ?_ | refine blk_alloc ?_ _)); exact BK280.out) hb); have n3_ := Aside0.mk (blk_below (g := gb281) (o := .cells #[.int .i64 t276, .int .i64 t277] 34 (0, 0)) (by (with_reducible repeat (first | refine blk_drewN ?_ _ | refine blk_drew ?_ | refine blk_alloc ?_ _)); refine blk_far ?_ NB281_292.out _; (with_reducible repeat (first | refine blk_drewN ?_ _ | refine blk_drew ?_ | refine blk_alloc ?_ _)); refine blk_far ?_ NB281_292.out _; (with_reducible repeat (first | refine blk_drewN ?_ _ | refine blk_drew ?_ | refine blk_alloc ?_ _)); refine blk_far ?_ NB281_291.out _; (with_reducible repeat (first | refine blk_drewN ?_ _ | refine blk_drew ?_ | refine blk_alloc ?_ _)); refine blk_far ?_ NB281_291.out _; (with_reducible repeat (first | refine blk_drewN ?_ _ | refine blk_drew ?_ | refine blk_alloc ?_ _)); exact BK281.out) hb); have n4_ := Aside0.mk (blk_below (g := gb291) (o := .cells #[.int .i64 t285, .int .i64 t286] 34 (0, 0)) (by (with_reducible repeat (first | refine blk_drewN ?_ _ | refine blk_drew ?_ | refine blk_alloc ?_ _)); refine blk_far ?_ NB291_292.out _; (with_reducible repeat (first | refine blk_drewN ?_ _ | refine blk_drew ?_ | refine blk_alloc ?_ _)); refine blk_far ?_ NB291_292.out _; (with_reducible repeat (first | refine blk_drewN ?_ _ | refine blk_drew ?_ | refine blk_alloc ?_ _)); refine blk_put (cs := #[.int .i64 t285, .int .i64 0]) ?_ 1 _ rfl; (with_reducible repeat (first | refine blk_drewN ?_ _ | refine blk_drew ?_ | refine blk_alloc ?_ _)); refine blk_put (cs := #[.int .i64 0, .int .i64 0]) ?_ 0 _ rfl; (with_reducible repeat (first | refine blk_drewN ?_ _ | refine blk_drew ?_ | refine blk_alloc ?_ _)); exact BK291.out) hb); have n5_ := Aside0.mk (blk_below (g := gb292) (o := .cells #[.int .i64 t287, .int .i64 t288] 34 (0, 0)) (by (with_reducible repeat (first | refine blk_drewN ?_ _ | refine blk_drew ?_ | refine blk_alloc ?_ _)); refine blk_put (cs := #[.int .i64 t287, .int .i64 0]) ?_ 1 _ rfl; (with_reducible repeat (first | refine blk_drewN ?_ _ | refine blk_drew ?_ | refine blk_alloc ?_ _)); refine blk_put (cs := #[.int .i64 0, .int .i64 0]) ?_ 0 _ rfl; (with_reducible repeat (first | refine blk_drewN ?_ _ | refine blk_drew ?_ | refine blk_alloc ?_ _)); refine blk_far ?_ NB292_291.out _; (with_reducible repeat (first | refine blk_drewN ?_ _ | refine blk_drew ?_ | refine blk_alloc ?_ _)); refine blk_far ?_ NB292_291.out _; (with_reducible repeat (first | refine blk_drewN ?_ _ | refine blk_drew ?_ | refine blk_alloc ?_ _)); exact BK292.out) hb); have n6_ := Aside0.mk (below_step (hbg_) hb); clear HO273; clear HO284; clear BK280; clear BK281; clear BK291; clear BK292; clear HB; have HO273 := n0_; have HO284 := n1_; have BK280 := n2_; have BK281 := n3_; have BK291 := n4_; have BK292 := n5_; have HB := n6_; clear n0_ n1_ n2_ n3_ n4_ n5_ n6_; (try clear hb); (try clear hb2); (try clear hk); (try clear hi); have hnb54 := NB292_281.out; have hnc54 := NB281_292.out; have hcz55_0 : w53.cell? ⟨gb292, 0, none⟩ = some (.int .i64 t287) := (blk_cell BK292.out 0).trans rfl; have hcz55_1 : w53.cell? ⟨gb292, 1, none⟩ = some (.int .i64 t288) := (blk_cell BK292.out 1).trans rfl; have hfz55_0 := blk_frozen BK292.out 0; have hfz55_1 := blk_frozen BK292.out 1; have hcz56_0 : w53.cell? ⟨gb281, 0, none⟩ = some (.int .i64 t276) := (blk_cell BK281.out 0).trans rfl; have hcz56_1 : w53.cell? ⟨gb281, 1, none⟩ = some (.int .i64 t277) := (blk_cell BK281.out 1).trans rfl; have hfz56_0 := blk_frozen BK281.out 0; have hfz56_1 := blk_frozen BK281.out 1) | (go_at_call 26; (with_reducible refine (laws_eqPeg.calls t287 t288 t276 t277 true _ A31.out).mono ?_); rintro e w57 ⟨rfl, hb⟩; have n0_ := Aside0.mk (Kd.R_below (rk_ HO273.out) hb); have n1_ := Aside0.mk (Kd.R_below (rk_ HO284.out) hb); have n2_ := bb_ BK280 hb; have n3_ := bb_ BK281 hb; have n4_ := bb_ BK291 hb; have n5_ := bb_ BK292 hb; have n6_ := Aside0.mk (below_step (hbg_) hb); clear HO273; clear HO284; clear BK280; clear BK281; clear BK291; clear BK292; clear HB; have HO273 := n0_; have HO284 := n1_; have BK280 := n2_; have BK281 := n3_; have BK291 := n4_; have BK292 := n5_; have HB := n6_; clear n0_ n1_ n2_ n3_ n4_ n5_ n6_; (try clear hb); (try clear hb2); (try clear hk); (try clear hi)))
            go_meet
            case rel => exact ⟨_, (true), (by first | rfl | (simp; done) | (simp [*]; done)), H', ⟨by first | omega | exact Nat.le_refl _⟩, ⟨by (with_reducible repeat (first | apply Kd.R_alloc | apply Kd.R_drewN | apply Kd.R_drew)); exact Kd.R_mono HO284.out (fun _ hk => ⟨hk.1.1.1.2, ⟨hk.1.1.2, ⟨hk.1.2, hk.2⟩⟩⟩)⟩, ⟨bk_ BK280.out⟩, ⟨bk_ BK281.out⟩, ⟨bk_ BK291.out⟩, ⟨bk_ BK292.out⟩, ⟨hbg_⟩⟩
        · replace c32 := Bool.eq_false_iff.mpr c32
          subst c32
          have H1 : (laws_FnExactFarthestApart.j0 k l0 t282 true) = some r := by rw [if_neg (show ¬ (false = true) by decide)] at H; exact H
          clear H
          have H := H1
          clear H1
          have H' := Aside0.mk H
          clear H
          have hnb58 := NB291_280.out
          have hnc58 := NB280_291.out
          have hnb59 := NB291_281.out
          have hnc59 := NB281_291.out
          have hnb60 := NB291_292.out
          have hnc60 := NB292_291.out
          have hcz61_0 : w21.cell? ⟨gb291, 0, none⟩ = some (.int .i64 0) := (blk_cell BK291.out 0).trans rfl
          have hcz61_1 : w21.cell? ⟨gb291, 1, none⟩ = some (.int .i64 0) := (blk_cell BK291.out 1).trans rfl
          have hfz61_0 := blk_frozen BK291.out 0
          have hfz61_1 := blk_frozen BK291.out 1
          have hnb62 := NB280_281.out
          have hnc62 := NB281_280.out
          have hnb63 := NB280_292.out
          have hnc63 := NB292_280.out
          have hcz64_0 : w21.cell? ⟨gb280, 0, none⟩ = some (.int .i64 t274) := (blk_cell BK280.out 0).trans rfl
          have hcz64_1 : w21.cell? ⟨gb280, 1, none⟩ = some (.int .i64 t275) := (blk_cell BK280.out 1).trans rfl
          have hfz64_0 := blk_frozen BK280.out 0
          have hfz64_1 := blk_frozen BK280.out 1
          go_wp2_with (first | ((with_reducible refine gate_callee (f := 26) rfl ?_); refine goesL_ (some 37) rfl rfl Try.func26 (by kernel_rfl) rfl #[.agg #[.int .i64 t285, .int .i64 t286], .agg #[.int .i64 t274, .int .i64 t275]] rfl ga_ ?_; (with_reducible refine (laws_eqPeg.calls t285 t286 t274 t275 true _ A29.out).mono ?_); rintro e w65 ⟨rfl, hb⟩; refine ⟨_, rfl, ?_⟩; have n0_ := Aside0.mk (Kd.R_below (by (with_reducible repeat (first | apply Kd.R_alloc | apply Kd.R_drewN | apply Kd.R_drew)); exact (Kd.R_mono (Kd.R_far (p := ⟨gb292, 1, none⟩) (Kd.R_far (p := ⟨gb292, 0, none⟩) (Kd.R_far (p := ⟨gb291, 1, none⟩) (Kd.R_far (p := ⟨gb291, 0, none⟩) (Kd.R_mono (Kd.R_mono HO273.out (fun k_ hk => (⟨hk, hk.1.2⟩ : _ ∧ k_ ≠ gb291))) (fun k_ hk => (⟨hk, hk.1.2⟩ : _ ∧ k_ ≠ gb292))) (fun _ hk => hk.1.2) (.int .i64 t285)) (fun _ hk => hk.1.2) (.int .i64 t286)) (fun _ hk => hk.2) (.int .i64 t287)) (fun _ hk => hk.2) (.int .i64 t288)) (fun _ h_ => h_.1.1))) hb); have n1_ := Aside0.mk (Kd.R_below (by (with_reducible repeat (first | apply Kd.R_alloc | apply Kd.R_drewN | apply Kd.R_drew)); exact (Kd.R_mono (Kd.R_far (p := ⟨gb292, 1, none⟩) (Kd.R_far (p := ⟨gb292, 0, none⟩) (Kd.R_far (p := ⟨gb291, 1, none⟩) (Kd.R_far (p := ⟨gb291, 0, none⟩) (Kd.R_mono (Kd.R_mono HO284.out (fun k_ hk => (⟨hk, hk.1.2⟩ : _ ∧ k_ ≠ gb291))) (fun k_ hk => (⟨hk, hk.1.2⟩ : _ ∧ k_ ≠ gb292))) (fun _ hk => hk.1.2) (.int .i64 t285)) (fun _ hk => hk.1.2) (.int .i64 t286)) (fun _ hk => hk.2) (.int .i64 t287)) (fun _ hk => hk.2) (.int .i64 t288)) (fun _ h_ => h_.1.1))) hb); have n2_ := Aside0.mk (blk_below (g := gb280) (o := .cells #[.int .i64 t274, .int .i64 t275] 34 (0, 0)) (by (with_reducible repeat (first | refine blk_drewN ?_ _ | refine blk_drew ?_ | refine blk_alloc ?_ _)); refine blk_far ?_ NB280_292.out _; (with_reducible repeat (first | refine blk_drewN ?_ _ | refine blk_drew ?_ | refine blk_alloc ?_ _)); refine blk_far ?_ NB280_292.out _; (with_reducible repeat (first | refine blk_drewN ?_ _ | refine blk_drew ?_ | refine blk_alloc ?_ _)); refine blk_far ?_ NB280_291.out _; (with_reducible repeat (first | refine blk_drewN ?_ _ | refine blk_drew ?_ | refine blk_alloc ?_ _)); refine blk_far ?_ NB280_291.out _; (with_reducible repeat (first | refine blk_drewN ?_ _ | refine blk_drew ?_ | refine blk_alloc ?_ _)); exact BK280.out) hb); have n3_ := Aside0.mk (blk_below (g := gb281) (o := .cells #[.int .i64 t276, .int .i64 t277] 34 (0, 0)) (by (with_reducible repeat (first | refine blk_drewN ?_ _ | refine blk_drew ?_ | refine blk_alloc ?_ _)); refine blk_far ?_ NB281_292.out _; (with_reducible repeat (first | refine blk_drewN ?_ _ | refine blk_drew ?_ | refine blk_alloc ?_ _)); refine blk_far ?_ NB281_292.out _; (with_reducible repeat (first | refine blk_drewN ?_ _ | refine blk_drew ?_ | refine blk_alloc ?_ _)); refine blk_far ?_ NB281_291.out _; (with_reducible repeat (first | refine blk_drewN ?_ _ | refine blk_drew ?_ | refine blk_alloc ?_ _)); refine blk_far ?_ NB281_291.out _; (with_reducible repeat (first | refine blk_drewN ?_ _ | refine blk_drew ?_ | refine blk_alloc ?_ _)); exact BK281.out) hb); have n4_ := Aside0.mk (blk_below (g := gb291) (o := .cells #[.int .i64 t285, .int .i64 t286] 34 (0, 0)) (by (with_reducible repeat (first | refine blk_drewN ?_ _ | refine blk_drew ?_ | refine blk_alloc ?_ _)); refine blk_far ?_ NB291_292.out _; (with_reducible repeat (first | refine blk_drewN ?_ _ | refine blk_drew ?_ | refine blk_alloc ?_ _)); refine blk_far ?_ NB291_292.out _; (with_reducible repeat (first | refine blk_drewN ?_ _ | refine blk_drew ?_ | refine blk_alloc ?_ _)); refine blk_put (cs := #[.int .i64 t285, .int .i64 0]) ?_ 1 _ rfl; (with_reducible repeat (first | refine blk_drewN ?_ _ | refine blk_drew ?_ | refine blk_alloc ?_ _)); refine blk_put (cs := #[.int .i64 0, .int .i64 0]) ?_ 0 _ rfl; (with_reducible repeat (first | refine blk_drewN ?_ _ | refine blk_drew ?_ | refine blk_alloc ?_ _)); exact BK291.out) hb); have n5_ := Aside0.mk (blk_below (g := gb292) (o := .cells #[.int .i64 t287, .int .i64 t288] 34 (0, 0)) (by (with_reducible repeat (first | refine blk_drewN ?_ _ | refine blk_drew ?_ | refine blk_alloc ?_ _)); refine blk_put (cs := #[.int .i64 t287, .int .i64 0]) ?_ 1 _ rfl; (with_reducible repeat (first | refine blk_drewN ?_ _ | refine blk_drew ?_ | refine blk_alloc ?_ _)); refine blk_put (cs := #[.int .i64 0, .int .i64 0]) ?_ 0 _ rfl; (with_reducible repeat (first | refine blk_drewN ?_ _ | refine blk_drew ?_ | refine blk_alloc ?_ _)); refine blk_far ?_ NB292_291.out _; (with_reducible repeat (first | refine blk_drewN ?_ _ | refine blk_drew ?_ | refine blk_alloc ?_ _)); refine blk_far ?_ NB292_291.out _; (with_reducible repeat (first | refine blk_drewN ?_ _ | refine blk_drew ?_ | refine blk_alloc ?_ _)); exact BK292.out) hb); have n6_ := Aside0.mk (below_step (hbg_) hb); clear HO273; clear HO284; clear BK280; clear BK281; clear BK291; clear BK292; clear HB; have HO273 := n0_; have HO284 := n1_; have BK280 := n2_; have BK281 := n3_; have BK291 := n4_; have BK292 := n5_; have HB := n6_; clear n0_ n1_ n2_ n3_ n4_ n5_ n6_; (try clear hb); (try clear hb2); (try clear hk); (try clear hi); have hnb66 := NB292_281.out; have hnc66 := NB281_292.out; have hcz67_0 : w65.cell? ⟨gb292, 0, none⟩ = some (.int .i64 t287) := (blk_cell BK292.out 0).trans rfl; have hcz67_1 : w65.cell? ⟨gb292, 1, none⟩ = some (.int .i64 t288) := (blk_cell BK292.out 1).trans rfl; have hfz67_0 := blk_frozen BK292.out 0; have hfz67_1 := blk_frozen BK292.out 1; have hcz68_0 : w65.cell? ⟨gb281, 0, none⟩ = some (.int .i64 t276) := (blk_cell BK281.out 0).trans rfl; have hcz68_1 : w65.cell? ⟨gb281, 1, none⟩ = some (.int .i64 t277) := (blk_cell BK281.out 1).trans rfl; have hfz68_0 := blk_frozen BK281.out 0; have hfz68_1 := blk_frozen BK281.out 1) | (go_at_call 26; (with_reducible refine (laws_eqPeg.calls t287 t288 t276 t277 false _ A31.out).mono ?_); rintro e w69 ⟨rfl, hb⟩; have n0_ := Aside0.mk (Kd.R_below (rk_ HO273.out) hb); have n1_ := Aside0.mk (Kd.R_below (rk_ HO284.out) hb); have n2_ := bb_ BK280 hb; have n3_ := bb_ BK281 hb; have n4_ := bb_ BK291 hb; have n5_ := bb_ BK292 hb; have n6_ := Aside0.mk (below_step (hbg_) hb); clear HO273; clear HO284; clear BK280; clear BK281; clear BK291; clear BK292; clear HB; have HO273 := n0_; have HO284 := n1_; have BK280 := n2_; have BK281 := n3_; have BK291 := n4_; have BK292 := n5_; have HB := n6_; clear n0_ n1_ n2_ n3_ n4_ n5_ n6_; (try clear hb); (try clear hb2); (try clear hk); (try clear hi)))
          go_meet
          case rel => exact ⟨_, (true), (by first | rfl | (simp; done) | (simp [*]; done)), H', ⟨by first | omega | exact Nat.le_refl _⟩, ⟨by (with_reducible repeat (first | apply Kd.R_alloc | apply Kd.R_drewN | apply Kd.R_drew)); exact Kd.R_mono HO284.out (fun _ hk => ⟨hk.1.1.1.2, ⟨hk.1.1.2, ⟨hk.1.2, hk.2⟩⟩⟩)⟩, ⟨bk_ BK280.out⟩, ⟨bk_ BK281.out⟩, ⟨bk_ BK291.out⟩, ⟨bk_ BK292.out⟩, ⟨hbg_⟩⟩
      · replace c30 := Bool.eq_false_iff.mpr c30
        subst c30
        have H1 : (laws_FnExactFarthestApart.j0 k l0 t282 true) = some r := by rw [if_neg (show ¬ (false = true) by decide)] at H; exact H
        clear H
        have H := H1
        clear H1
        have H' := Aside0.mk H
        clear H
        have hnb70 := NB291_280.out
        have hnc70 := NB280_291.out
        have hnb71 := NB291_281.out
        have hnc71 := NB281_291.out
        have hnb72 := NB291_292.out
        have hnc72 := NB292_291.out
        have hcz73_0 : w21.cell? ⟨gb291, 0, none⟩ = some (.int .i64 0) := (blk_cell BK291.out 0).trans rfl
        have hcz73_1 : w21.cell? ⟨gb291, 1, none⟩ = some (.int .i64 0) := (blk_cell BK291.out 1).trans rfl
        have hfz73_0 := blk_frozen BK291.out 0
        have hfz73_1 := blk_frozen BK291.out 1
        have hnb74 := NB280_281.out
        have hnc74 := NB281_280.out
        have hnb75 := NB280_292.out
        have hnc75 := NB292_280.out
        have hcz76_0 : w21.cell? ⟨gb280, 0, none⟩ = some (.int .i64 t274) := (blk_cell BK280.out 0).trans rfl
        have hcz76_1 : w21.cell? ⟨gb280, 1, none⟩ = some (.int .i64 t275) := (blk_cell BK280.out 1).trans rfl
        have hfz76_0 := blk_frozen BK280.out 0
        have hfz76_1 := blk_frozen BK280.out 1
        go_wp2_with (first | ((with_reducible refine gate_callee (f := 26) rfl ?_); refine goesL_ (some 37) rfl rfl Try.func26 (by kernel_rfl) rfl #[.agg #[.int .i64 t285, .int .i64 t286], .agg #[.int .i64 t274, .int .i64 t275]] rfl ga_ ?_; (with_reducible refine (laws_eqPeg.calls t285 t286 t274 t275 false _ A29.out).mono ?_); rintro e w77 ⟨rfl, hb⟩; refine ⟨_, rfl, ?_⟩; have n0_ := Aside0.mk (Kd.R_below (by (with_reducible repeat (first | apply Kd.R_alloc | apply Kd.R_drewN | apply Kd.R_drew)); exact (Kd.R_mono (Kd.R_far (p := ⟨gb292, 1, none⟩) (Kd.R_far (p := ⟨gb292, 0, none⟩) (Kd.R_far (p := ⟨gb291, 1, none⟩) (Kd.R_far (p := ⟨gb291, 0, none⟩) (Kd.R_mono (Kd.R_mono HO273.out (fun k_ hk => (⟨hk, hk.1.2⟩ : _ ∧ k_ ≠ gb291))) (fun k_ hk => (⟨hk, hk.1.2⟩ : _ ∧ k_ ≠ gb292))) (fun _ hk => hk.1.2) (.int .i64 t285)) (fun _ hk => hk.1.2) (.int .i64 t286)) (fun _ hk => hk.2) (.int .i64 t287)) (fun _ hk => hk.2) (.int .i64 t288)) (fun _ h_ => h_.1.1))) hb); have n1_ := Aside0.mk (Kd.R_below (by (with_reducible repeat (first | apply Kd.R_alloc | apply Kd.R_drewN | apply Kd.R_drew)); exact (Kd.R_mono (Kd.R_far (p := ⟨gb292, 1, none⟩) (Kd.R_far (p := ⟨gb292, 0, none⟩) (Kd.R_far (p := ⟨gb291, 1, none⟩) (Kd.R_far (p := ⟨gb291, 0, none⟩) (Kd.R_mono (Kd.R_mono HO284.out (fun k_ hk => (⟨hk, hk.1.2⟩ : _ ∧ k_ ≠ gb291))) (fun k_ hk => (⟨hk, hk.1.2⟩ : _ ∧ k_ ≠ gb292))) (fun _ hk => hk.1.2) (.int .i64 t285)) (fun _ hk => hk.1.2) (.int .i64 t286)) (fun _ hk => hk.2) (.int .i64 t287)) (fun _ hk => hk.2) (.int .i64 t288)) (fun _ h_ => h_.1.1))) hb); have n2_ := Aside0.mk (blk_below (g := gb280) (o := .cells #[.int .i64 t274, .int .i64 t275] 34 (0, 0)) (by (with_reducible repeat (first | refine blk_drewN ?_ _ | refine blk_drew ?_ | refine blk_alloc ?_ _)); refine blk_far ?_ NB280_292.out _; (with_reducible repeat (first | refine blk_drewN ?_ _ | refine blk_drew ?_ | refine blk_alloc ?_ _)); refine blk_far ?_ NB280_292.out _; (with_reducible repeat (first | refine blk_drewN ?_ _ | refine blk_drew ?_ | refine blk_alloc ?_ _)); refine blk_far ?_ NB280_291.out _; (with_reducible repeat (first | refine blk_drewN ?_ _ | refine blk_drew ?_ | refine blk_alloc ?_ _)); refine blk_far ?_ NB280_291.out _; (with_reducible repeat (first | refine blk_drewN ?_ _ | refine blk_drew ?_ | refine blk_alloc ?_ _)); exact BK280.out) hb); have n3_ := Aside0.mk (blk_below (g := gb281) (o := .cells #[.int .i64 t276, .int .i64 t277] 34 (0, 0)) (by (with_reducible repeat (first | refine blk_drewN ?_ _ | refine blk_drew ?_ | refine blk_alloc ?_ _)); refine blk_far ?_ NB281_292.out _; (with_reducible repeat (first | refine blk_drewN ?_ _ | refine blk_drew ?_ | refine blk_alloc ?_ _)); refine blk_far ?_ NB281_292.out _; (with_reducible repeat (first | refine blk_drewN ?_ _ | refine blk_drew ?_ | refine blk_alloc ?_ _)); refine blk_far ?_ NB281_291.out _; (with_reducible repeat (first | refine blk_drewN ?_ _ | refine blk_drew ?_ | refine blk_alloc ?_ _)); refine blk_far ?_ NB281_291.out _; (with_reducible repeat (first | refine blk_drewN ?_ _ | refine blk_drew ?_ | refine blk_alloc ?_ _)); exact BK281.out) hb); have n4_ := Aside0.mk (blk_below (g := gb291) (o := .cells #[.int .i64 t285, .int .i64 t286] 34 (0, 0)) (by (with_reducible repeat (first | refine blk_drewN ?_ _ | refine blk_drew ?_ | refine blk_alloc ?_ _)); refine blk_far ?_ NB291_292.out _; (with_reducible repeat (first | refine blk_drewN ?_ _ | refine blk_drew ?_ | refine blk_alloc ?_ _)); refine blk_far ?_ NB291_292.out _; (with_reducible repeat (first | refine blk_drewN ?_ _ | refine blk_drew ?_ | refine blk_alloc ?_ _)); refine blk_put (cs := #[.int .i64 t285, .int .i64 0]) ?_ 1 _ rfl; (with_reducible repeat (first | refine blk_drewN ?_ _ | refine blk_drew ?_ | refine blk_alloc ?_ _)); refine blk_put (cs := #[.int .i64 0, .int .i64 0]) ?_ 0 _ rfl; (with_reducible repeat (first | refine blk_drewN ?_ _ | refine blk_drew ?_ | refine blk_alloc ?_ _)); exact BK291.out) hb); have n5_ := Aside0.mk (blk_below (g := gb292) (o := .cells #[.int .i64 t287, .int .i64 t288] 34 (0, 0)) (by (with_reducible repeat (first | refine blk_drewN ?_ _ | refine blk_drew ?_ | refine blk_alloc ?_ _)); refine blk_put (cs := #[.int .i64 t287, .int .i64 0]) ?_ 1 _ rfl; (with_reducible repeat (first | refine blk_drewN ?_ _ | refine blk_drew ?_ | refine blk_alloc ?_ _)); refine blk_put (cs := #[.int .i64 0, .int .i64 0]) ?_ 0 _ rfl; (with_reducible repeat (first | refine blk_drewN ?_ _ | refine blk_drew ?_ | refine blk_alloc ?_ _)); refine blk_far ?_ NB292_291.out _; (with_reducible repeat (first | refine blk_drewN ?_ _ | refine blk_drew ?_ | refine blk_alloc ?_ _)); refine blk_far ?_ NB292_291.out _; (with_reducible repeat (first | refine blk_drewN ?_ _ | refine blk_drew ?_ | refine blk_alloc ?_ _)); exact BK292.out) hb); have n6_ := Aside0.mk (below_step (hbg_) hb); clear HO273; clear HO284; clear BK280; clear BK281; clear BK291; clear BK292; clear HB; have HO273 := n0_; have HO284 := n1_; have BK280 := n2_; have BK281 := n3_; have BK291 := n4_; have BK292 := n5_; have HB := n6_; clear n0_ n1_ n2_ n3_ n4_ n5_ n6_; (try clear hb); (try clear hb2); (try clear hk); (try clear hi)))
        go_meet
        case rel => exact ⟨_, (true), (by first | rfl | (simp; done) | (simp [*]; done)), H', ⟨by first | omega | exact Nat.le_refl _⟩, ⟨by (with_reducible repeat (first | apply Kd.R_alloc | apply Kd.R_drewN | apply Kd.R_drew)); exact Kd.R_mono HO284.out (fun _ hk => ⟨hk.1.1.1.2, ⟨hk.1.1.2, ⟨hk.1.2, hk.2⟩⟩⟩)⟩, ⟨bk_ BK280.out⟩, ⟨bk_ BK281.out⟩, ⟨bk_ BK291.out⟩, ⟨bk_ BK292.out⟩, ⟨hbg_⟩⟩
    case rest =>
      clear HC8
      try clear c1
      try clear c2
      try clear p2
      try clear c3
      try clear c3b0
      try clear c4
      try clear c5
      try clear c6
      try clear c7
      try clear c14
      try clear c15
      try clear c17
      try clear c22
      try clear c23
      try clear c24
      try clear c25
      try clear c26
      try clear c27
      try clear c30
      try clear c32
      try clear c33
      try clear c33b0
      try clear c33b1
      try clear c34
      try clear c35
      try clear c36
      try clear c38
      try clear c39
      try clear c42
      try clear c46
      try clear c47
      try clear c48
      try clear c50
      try clear c51
      try clear c54
      try clear c58
      try clear c59
      try clear c60
      try clear c62
      try clear c63
      try clear c66
      try clear c70
      try clear c71
      try clear c72
      try clear c74
      try clear c75
      try clear hcz15_0
      try clear hcz15_1
      try clear hcz16_0
      try clear hcz16_1
      try clear hcz25_0
      try clear hcz25_1
      try clear hcz28_0
      try clear hcz28_1
      try clear hcz37_0
      try clear hcz37_1
      try clear hcz40_0
      try clear hcz40_1
      try clear hcz43_0
      try clear hcz43_1
      try clear hcz44_0
      try clear hcz44_1
      try clear hcz49_0
      try clear hcz49_1
      try clear hcz52_0
      try clear hcz52_1
      try clear hcz55_0
      try clear hcz55_1
      try clear hcz56_0
      try clear hcz56_1
      try clear hcz61_0
      try clear hcz61_1
      try clear hcz64_0
      try clear hcz64_1
      try clear hcz67_0
      try clear hcz67_1
      try clear hcz68_0
      try clear hcz68_1
      try clear hcz73_0
      try clear hcz73_1
      try clear hcz76_0
      try clear hcz76_1
      try clear hfz15_0
      try clear hfz15_1
      try clear hfz16_0
      try clear hfz16_1
      try clear hfz25_0
      try clear hfz25_1
      try clear hfz28_0
      try clear hfz28_1
      try clear hfz37_0
      try clear hfz37_1
      try clear hfz40_0
      try clear hfz40_1
      try clear hfz43_0
      try clear hfz43_1
      try clear hfz44_0
      try clear hfz44_1
      try clear hfz49_0
      try clear hfz49_1
      try clear hfz52_0
      try clear hfz52_1
      try clear hfz55_0
      try clear hfz55_1
      try clear hfz56_0
      try clear hfz56_1
      try clear hfz61_0
      try clear hfz61_1
      try clear hfz64_0
      try clear hfz64_1
      try clear hfz67_0
      try clear hfz67_1
      try clear hfz68_0
      try clear hfz68_1
      try clear hfz73_0
      try clear hfz73_1
      try clear hfz76_0
      try clear hfz76_1
      obtain ⟨kq, x54_7, rfl, HA, HJ7, HO_8, BK280, BK281, BK291, BK292, HB⟩ := hcut
      cases kq with
      | zero => exact absurd HA.out (by simp [laws_FnExactFarthestApart.j0])
      | succ kj7 =>
        have H := HA.out
        clear HA
        simp only [laws_FnExactFarthestApart.j0] at H
        by_cases c78 : x54_7 = true
        · subst c78
          have H1 : (some false) = some r := by rw [if_pos rfl] at H; exact H
          clear H
          have H := H1
          clear H1
          exact absurd (Option.some.inj H) (by rw [hr_]; decide)
        · replace c78 := Bool.eq_false_iff.mpr c78
          subst c78
          have H1 : ((laws_toPegS.f kj7 l0).bind fun t295 => ((laws_eqPegS.f kj7 t282 t295).bind fun t298 => (if t298 = true then (some true) else (some false)))) = some r := by rw [if_neg (show ¬ (false = true) by decide)] at H; exact H
          clear H
          have H := H1
          clear H1
          replace H := Option.bind_eq_some_iff.mp H
          obtain ⟨t295, A790, H⟩ := H
          replace H : ((laws_eqPegS.f kj7 t282 t295).bind fun t298 => (if t298 = true then (some true) else (some false))) = some r := H
          have A79 := Aside0.mk A790
          clear A790
          replace H := Option.bind_eq_some_iff.mp H
          obtain ⟨t298, A800, H⟩ := H
          replace H : (if t298 = true then (some true) else (some false)) = some r := H
          have A80 := Aside0.mk A800
          clear A800
          by_cases c81 : t298 = true
          · subst c81
            have H1 : (some true) = some r := by rw [if_pos rfl] at H; exact H
            clear H
            have H := H1
            clear H1
            obtain rfl := Option.some.inj H
            go_wp2_with (first | ((with_reducible refine gate_callee (f := 17) rfl ?_); refine goesL_ (some 57) rfl rfl Try.func17 (by kernel_rfl) rfl #[.slice A0 l0.length c0] rfl ga_ ?_; (with_reducible refine (laws_toPegS.calls kj7 _ _ l0 t295 _ ?side1 ?side2 A79.out).mono ?_); (case side1 => repeat (first | exact (Kd.C_below HR0.out HB.out) | (with_reducible refine Kd.C_alloc ?_ _) | (with_reducible refine Kd.C_drewN ?_ _) | (with_reducible refine Kd.C_drew ?_))); (case side2 => exact HC0.out); rintro e w82 ⟨v296, rfl, ho0, hb⟩; refine ⟨_, rfl, ?_⟩; have n0_ := Aside0.mk (Kd.R_elder' (rk_ HO_8.out) (Kd.R_base ho0) hb); have n1_ := Aside0.mk (Kd.R_lower (Kd.R_newB (Kd.R_newB (Kd.R_newB (Kd.R_newB (Kd.R_new' ho0 (Kd.R_lt (rk_ HO_8.out))) (g := gb280) (o := .cells #[.int .i64 t274, .int .i64 t275] 34 (0, 0)) (bk_ BK280.out)) (g := gb281) (o := .cells #[.int .i64 t276, .int .i64 t277] 34 (0, 0)) (bk_ BK281.out)) (g := gb291) (o := .cells #[.int .i64 t285, .int .i64 t286] 34 (0, 0)) (bk_ BK291.out)) (g := gb292) (o := .cells #[.int .i64 t287, .int .i64 t288] 34 (0, 0)) (bk_ BK292.out)) (below_size (hbg_))); have n2_ := bb_ BK280 hb; have n3_ := bb_ BK281 hb; have n4_ := bb_ BK291 hb; have n5_ := bb_ BK292 hb; have n6_ := Aside0.mk (below_step (hbg_) hb); clear HO_8; clear BK280; clear BK281; clear BK291; clear BK292; clear HB; have HO_8 := n0_; have HO297 := n1_; have BK280 := n2_; have BK281 := n3_; have BK291 := n4_; have BK292 := n5_; have HB := n6_; clear n0_ n1_ n2_ n3_ n4_ n5_ n6_; (try clear hb); (try clear hb2); (try clear hk); (try clear hi); (try clear ho0); obtain ⟨Ao83, co83, eo83⟩ := Kd.R_slice HO297.out; subst eo83) | ((with_reducible refine gate_callee (f := 19) rfl ?_); refine goesL_ (some 58) rfl rfl Try.func19 (by kernel_rfl) rfl #[.slice Ao18 t282.length co18, .slice Ao83 t295.length co83] rfl ga_ ?_; (with_reducible refine (laws_eqPegS.calls kj7 _ _ t282 _ _ t295 true _ ?side1 ?side2 ?side3 ?side4 A80.out).mono ?_); (case side1 => repeat (first | exact (Kd.R_reads' HO_8.out).2.2 | (with_reducible refine Kd.C_alloc ?_ _) | (with_reducible refine Kd.C_drewN ?_ _) | (with_reducible refine Kd.C_drew ?_))); (case side2 => exact (Kd.R_reads' HO_8.out).2.1); (case side3 => repeat (first | exact (Kd.R_reads' HO297.out).2.2 | (with_reducible refine Kd.C_alloc ?_ _) | (with_reducible refine Kd.C_drewN ?_ _) | (with_reducible refine Kd.C_drew ?_))); (case side4 => exact (Kd.R_reads' HO297.out).2.1); rintro e w84 ⟨rfl, hb⟩; refine ⟨_, rfl, ?_⟩; have n0_ := Aside0.mk (Kd.R_below (rk_ HO_8.out) hb); have n1_ := Aside0.mk (Kd.R_below (rk_ HO297.out) hb); have n2_ := bb_ BK280 hb; have n3_ := bb_ BK281 hb; have n4_ := bb_ BK291 hb; have n5_ := bb_ BK292 hb; have n6_ := Aside0.mk (below_step (hbg_) hb); clear HO_8; clear HO297; clear BK280; clear BK281; clear BK291; clear BK292; clear HB; have HO_8 := n0_; have HO297 := n1_; have BK280 := n2_; have BK281 := n3_; have BK291 := n4_; have BK292 := n5_; have HB := n6_; clear n0_ n1_ n2_ n3_ n4_ n5_ n6_; (try clear hb); (try clear hb2); (try clear hk); (try clear hi)))
            go_ret
            exact ⟨by first | rfl | (simp [errW_none, errW_some] <;> rfl) | (simp [*, errW_none, errW_some] <;> rfl), hbg_⟩
          · replace c81 := Bool.eq_false_iff.mpr c81
            subst c81
            have H1 : (some false) = some r := by rw [if_neg (show ¬ (false = true) by decide)] at H; exact H
            clear H
            have H := H1
            clear H1
            exact absurd (Option.some.inj H) (by rw [hr_]; decide)

end Go.Proofs.Ytaclbccjcjdbpaa.MF
