-- Written by a program of this session (wip/print/myprint.py) over the kit's printer; Lean checks it.
import Derived.Test.YtlhiificglpgkaaMLx0
import Derived.Test.YtlhiificglpgkaaMLx3
import Derived.Test.YtlhiificglpgkaaMLx4
import Derived.Test.YtlhiificglpgkaaMLx7
import Derived.Test.YtlhiificglpgkaaMLx10
namespace Go.Proofs.Ytlhiificglpgkaa.ML
open Go.RowKit Go.Proofs.YtlhiificglpgkaaW.PrintWords Go.Proofs.YtlhiificglpgkaaW.PrintLast Go.Proofs.YtlhiificglpgkaaW.PrintMore Go.Proofs.YtlhiificglpgkaaV
attribute [local go_sem] max2_int min2_int max_two min_two max_three min_three max_four min_four   -- for this text's walks alone
set_option linter.unusedVariables false
set_option linter.unusedSimpArgs false

/-! ### laws_FnExactMakePuzzle: function 6 -/
mutual
def laws_FnExactMakePuzzle.j0 : Nat → Int → Int → Int → Bool → Bool → Int → Int → Int → List (S39) → Int → List (S39) → Option (Bool)
  | 0, _, _, _, _, _, _, _, _, _, _, _ => none
  | k + 1, x0, x2, x3, x10, x43, x232000, x232001, x240000, x240001, x248000, x248001 => if x43 = true then (some false) else ((laws_markPuzzle.f k x248000 x248001 1).bind fun bt249 => ((laws_heldPuzzle.f k x248000 bt249.2 1).bind fun t251 => (if t251 < 0 then (some false) else (if t251 = bt249.1 then ((laws_toPeg.f x232000 x232001).bind fun bt252 => ((impl_MakePuzzle.f k x0 bt252.1 bt252.2 x2 x3).bind fun bt254 => ((laws_eqPuzzle.f k bt254.1 bt254.2.1 x240000 x240001).bind fun t260 => (if t260 = true then (laws_FnExactMakePuzzle.j1 k bt249.1 (bt254.2.2 != x10) x248000 bt249.2) else (laws_FnExactMakePuzzle.j1 k bt249.1 true x248000 bt249.2))))) else (some false)))))
def laws_FnExactMakePuzzle.j1 : Nat → Int → Bool → Int → List (S39) → Option (Bool)
  | 0, _, _, _, _ => none
  | k + 1, x13, x72, x248000, x248001 => if x72 = true then (some false) else ((laws_heldPuzzle.f k x248000 x248001 1).bind fun t261 => (if t261 < 0 then (some false) else (if t261 = x13 then (some true) else (some false))))
end
def laws_FnExactMakePuzzle.f (k : Nat) (a0 : Int) (a1_0 : Int) (a1_1 : Int) (a2 : Int) (a3 : Int) : Option (Bool) := (laws_toPeg.f a1_0 a1_1).bind fun bt232 => ((spec_MakePuzzle.f k a0 bt232.1 bt232.2 a2 a3).bind fun bt234 => ((laws_toPeg.f a1_0 a1_1).bind fun bt240 => ((impl_MakePuzzle.f k a0 bt240.1 bt240.2 a2 a3).bind fun bt242 => ((laws_eqPuzzle.f k bt242.1 bt242.2.1 bt234.1 bt234.2.1).bind fun t248 => (if t248 = true then (laws_FnExactMakePuzzle.j0 k a0 a2 a3 bt234.2.2 (bt242.2.2 != bt234.2.2) a1_0 a1_1 bt234.1 bt234.2.1 bt242.1 bt242.2.1) else (laws_FnExactMakePuzzle.j0 k a0 a2 a3 bt234.2.2 true a1_0 a1_1 bt234.1 bt234.2.1 bt242.1 bt242.2.1))))))
theorem laws_FnExactMakePuzzle.mono_l : ∀ k, (∀ y0 y1 y2 y3 y4 y5 y6 y7 y8 y9 y10, LeO (laws_FnExactMakePuzzle.j0 k y0 y1 y2 y3 y4 y5 y6 y7 y8 y9 y10) (laws_FnExactMakePuzzle.j0 (k + 1) y0 y1 y2 y3 y4 y5 y6 y7 y8 y9 y10)) ∧ (∀ y0 y1 y2 y3, LeO (laws_FnExactMakePuzzle.j1 k y0 y1 y2 y3) (laws_FnExactMakePuzzle.j1 (k + 1) y0 y1 y2 y3))
  | 0 => ⟨fun _ _ _ _ _ _ _ _ _ _ _ r h => by simp [laws_FnExactMakePuzzle.j0] at h, fun _ _ _ _ r h => by simp [laws_FnExactMakePuzzle.j1] at h⟩
  | k + 1 => by
    obtain ⟨ih0, ih1⟩ := laws_FnExactMakePuzzle.mono_l k
    refine ⟨?_, ?_⟩
    · intro y0 y1 y2 y3 y4 y5 y6 y7 y8 y9 y10
      unfold laws_FnExactMakePuzzle.j0
      repeat' first
      | (with_reducible exact ih0 _ _ _ _ _ _ _ _ _ _ _)
      | (with_reducible exact ih1 _ _ _ _)
      | (with_reducible exact impl_MakePuzzle.mono _ _ _ _ _ _)
      | (with_reducible exact laws_eqPuzzle.mono _ _ _ _ _)
      | (with_reducible exact laws_heldPuzzle.mono _ _ _ _)
      | (with_reducible exact laws_markPuzzle.mono _ _ _ _)
      | (with_reducible exact spec_MakePuzzle.mono _ _ _ _ _ _)
      | (with_reducible exact LeO.refl _)
      | (with_reducible exact LeO.none _)
      | (with_reducible refine LeO.ite ?_ ?_)
      | (with_reducible refine LeO.bind ?_ (fun _ => ?_))
      | exact ih0 _ _ _ _ _ _ _ _ _ _ _
      | exact ih1 _ _ _ _
      | exact impl_MakePuzzle.mono _ _ _ _ _ _
      | exact laws_eqPuzzle.mono _ _ _ _ _
      | exact laws_heldPuzzle.mono _ _ _ _
      | exact laws_markPuzzle.mono _ _ _ _
      | exact spec_MakePuzzle.mono _ _ _ _ _ _
      | exact LeO.none _
      | refine LeO.ite ?_ ?_
      | refine LeO.bind ?_ (fun _ => ?_)
    · intro y0 y1 y2 y3
      unfold laws_FnExactMakePuzzle.j1
      repeat' first
      | (with_reducible exact ih0 _ _ _ _ _ _ _ _ _ _ _)
      | (with_reducible exact ih1 _ _ _ _)
      | (with_reducible exact impl_MakePuzzle.mono _ _ _ _ _ _)
      | (with_reducible exact laws_eqPuzzle.mono _ _ _ _ _)
      | (with_reducible exact laws_heldPuzzle.mono _ _ _ _)
      | (with_reducible exact laws_markPuzzle.mono _ _ _ _)
      | (with_reducible exact spec_MakePuzzle.mono _ _ _ _ _ _)
      | (with_reducible exact LeO.refl _)
      | (with_reducible exact LeO.none _)
      | (with_reducible refine LeO.ite ?_ ?_)
      | (with_reducible refine LeO.bind ?_ (fun _ => ?_))
      | exact ih0 _ _ _ _ _ _ _ _ _ _ _
      | exact ih1 _ _ _ _
      | exact impl_MakePuzzle.mono _ _ _ _ _ _
      | exact laws_eqPuzzle.mono _ _ _ _ _
      | exact laws_heldPuzzle.mono _ _ _ _
      | exact laws_markPuzzle.mono _ _ _ _
      | exact spec_MakePuzzle.mono _ _ _ _ _ _
      | exact LeO.none _
      | refine LeO.ite ?_ ?_
      | refine LeO.bind ?_ (fun _ => ?_)
theorem laws_FnExactMakePuzzle.mono : ∀ a0 a1 a2 a3 a4 k, LeO (laws_FnExactMakePuzzle.f k a0 a1 a2 a3 a4) (laws_FnExactMakePuzzle.f (k + 1) a0 a1 a2 a3 a4) := by
  intro a0 a1 a2 a3 a4 k
  obtain ⟨ih0, ih1⟩ := laws_FnExactMakePuzzle.mono_l k
  unfold laws_FnExactMakePuzzle.f
  repeat' first
      | (with_reducible exact ih0 _ _ _ _ _ _ _ _ _ _ _)
      | (with_reducible exact ih1 _ _ _ _)
      | (with_reducible exact impl_MakePuzzle.mono _ _ _ _ _ _)
      | (with_reducible exact laws_eqPuzzle.mono _ _ _ _ _)
      | (with_reducible exact laws_heldPuzzle.mono _ _ _ _)
      | (with_reducible exact laws_markPuzzle.mono _ _ _ _)
      | (with_reducible exact spec_MakePuzzle.mono _ _ _ _ _ _)
      | (with_reducible exact LeO.refl _)
      | (with_reducible exact LeO.none _)
      | (with_reducible refine LeO.ite ?_ ?_)
      | (with_reducible refine LeO.bind ?_ (fun _ => ?_))
      | exact ih0 _ _ _ _ _ _ _ _ _ _ _
      | exact ih1 _ _ _ _
      | exact impl_MakePuzzle.mono _ _ _ _ _ _
      | exact laws_eqPuzzle.mono _ _ _ _ _
      | exact laws_heldPuzzle.mono _ _ _ _
      | exact laws_markPuzzle.mono _ _ _ _
      | exact spec_MakePuzzle.mono _ _ _ _ _ _
      | exact LeO.none _
      | refine LeO.ite ?_ ?_
      | refine LeO.bind ?_ (fun _ => ?_)
set_option maxHeartbeats 8000000 in
set_option maxRecDepth 100000 in
theorem laws_FnExactMakePuzzle.calls (k : Nat) (a0 : Int) (a1_0 : Int) (a1_1 : Int) (a2 : Int) (a3 : Int) (r : Bool) (w : World) (hr_ : r = true) (h : laws_FnExactMakePuzzle.f k a0 a1_0 a1_1 a2 a3 = some r) :
    Calls Try.prog 6 #[.int .i64 a0, .agg #[.int .i64 a1_0, .int .i64 a1_1], .int .i64 a2, .int .i64 a3] w fun e w' => e = .returned (.bool r) ∧ Below w.heap.size w w' := by
  have hu36 := Try.underlying36
  have hu29 := Try.underlying29
  have HB := Aside0.mk (Below.refl w.heap.size w)
  have H : ((laws_toPeg.f a1_0 a1_1).bind fun bt232 => ((spec_MakePuzzle.f k a0 bt232.1 bt232.2 a2 a3).bind fun bt234 => ((laws_toPeg.f a1_0 a1_1).bind fun bt240 => ((impl_MakePuzzle.f k a0 bt240.1 bt240.2 a2 a3).bind fun bt242 => ((laws_eqPuzzle.f k bt242.1 bt242.2.1 bt234.1 bt234.2.1).bind fun t248 => (if t248 = true then (laws_FnExactMakePuzzle.j0 k a0 a2 a3 bt234.2.2 (bt242.2.2 != bt234.2.2) a1_0 a1_1 bt234.1 bt234.2.1 bt242.1 bt242.2.1) else (laws_FnExactMakePuzzle.j0 k a0 a2 a3 bt234.2.2 true a1_0 a1_1 bt234.1 bt234.2.1 bt242.1 bt242.2.1))))))) = some r := h
  clear h
  replace H := Option.bind_eq_some_iff.mp H
  obtain ⟨⟨t232, t233⟩, A50, H⟩ := H
  replace H : ((spec_MakePuzzle.f k a0 t232 t233 a2 a3).bind fun bt234 => ((laws_toPeg.f a1_0 a1_1).bind fun bt240 => ((impl_MakePuzzle.f k a0 bt240.1 bt240.2 a2 a3).bind fun bt242 => ((laws_eqPuzzle.f k bt242.1 bt242.2.1 bt234.1 bt234.2.1).bind fun t248 => (if t248 = true then (laws_FnExactMakePuzzle.j0 k a0 a2 a3 bt234.2.2 (bt242.2.2 != bt234.2.2) a1_0 a1_1 bt234.1 bt234.2.1 bt242.1 bt242.2.1) else (laws_FnExactMakePuzzle.j0 k a0 a2 a3 bt234.2.2 true a1_0 a1_1 bt234.1 bt234.2.1 bt242.1 bt242.2.1)))))) = some r := H
  have A5 := Aside0.mk A50
  clear A50
  replace H := Option.bind_eq_some_iff.mp H
  obtain ⟨⟨t234, t235, t238⟩, A60, H⟩ := H
  replace H : ((laws_toPeg.f a1_0 a1_1).bind fun bt240 => ((impl_MakePuzzle.f k a0 bt240.1 bt240.2 a2 a3).bind fun bt242 => ((laws_eqPuzzle.f k bt242.1 bt242.2.1 t234 t235).bind fun t248 => (if t248 = true then (laws_FnExactMakePuzzle.j0 k a0 a2 a3 t238 (bt242.2.2 != t238) a1_0 a1_1 t234 t235 bt242.1 bt242.2.1) else (laws_FnExactMakePuzzle.j0 k a0 a2 a3 t238 true a1_0 a1_1 t234 t235 bt242.1 bt242.2.1))))) = some r := H
  have A6 := Aside0.mk A60
  clear A60
  replace H := Option.bind_eq_some_iff.mp H
  obtain ⟨⟨t240, t241⟩, A70, H⟩ := H
  replace H : ((impl_MakePuzzle.f k a0 t240 t241 a2 a3).bind fun bt242 => ((laws_eqPuzzle.f k bt242.1 bt242.2.1 t234 t235).bind fun t248 => (if t248 = true then (laws_FnExactMakePuzzle.j0 k a0 a2 a3 t238 (bt242.2.2 != t238) a1_0 a1_1 t234 t235 bt242.1 bt242.2.1) else (laws_FnExactMakePuzzle.j0 k a0 a2 a3 t238 true a1_0 a1_1 t234 t235 bt242.1 bt242.2.1)))) = some r := H
  have A7 := Aside0.mk A70
  clear A70
  replace H := Option.bind_eq_some_iff.mp H
  obtain ⟨⟨t242, t243, t246⟩, A80, H⟩ := H
  replace H : ((laws_eqPuzzle.f k t242 t243 t234 t235).bind fun t248 => (if t248 = true then (laws_FnExactMakePuzzle.j0 k a0 a2 a3 t238 (t246 != t238) a1_0 a1_1 t234 t235 t242 t243) else (laws_FnExactMakePuzzle.j0 k a0 a2 a3 t238 true a1_0 a1_1 t234 t235 t242 t243))) = some r := H
  have A8 := Aside0.mk A80
  clear A80
  have HC9 := Aside0.mk H
  clear H
  go_enter Try.func6, Try.ntmps6
  go_upto_region 3 with (first | ((with_reducible refine gate_dst (N := 5) rfl ?_); refine box_event ?hg (N := 5) ?hd (cs := #[.int .i64 a1_0, .int .i64 a1_1]) (t := 36) ?hr ?_; (case hd => rfl); (case hg => rfl); (case hr => first | (go_simp; done) | (go_simp; rfl)); intro gb231 hg w10 hbox hb; have n0_ := Aside0.mk (below_step (hb_) hb); have n1_ := Aside0.mk (hbox); have n2_ := Aside0.mk ((by rw [hg]; exact (below_size (hb_)) : w.heap.size ≤ gb231)); have n3_ := Aside0.mk ((by rw [hg]; exact (below_size (hb_)) : w.heap.size ≤ gb231)); clear HB; have HB := n0_; have BK231 := n1_; have GW231 := n2_; have GE231 := n3_; clear n0_ n1_ n2_ n3_; clear hb hbox hg; have hcz11_0 : w10.cell? ⟨gb231, 0, none⟩ = some (.int .i64 a1_0) := (blk_cell BK231.out 0).trans rfl; have hcz11_1 : w10.cell? ⟨gb231, 1, none⟩ = some (.int .i64 a1_1) := (blk_cell BK231.out 1).trans rfl; have hfz11_0 := blk_frozen BK231.out 0; have hfz11_1 := blk_frozen BK231.out 1) | ((with_reducible refine gate_callee (f := 22) rfl ?_); refine goesL_ (some 20) rfl rfl Try.func22 (by kernel_rfl) rfl #[.agg #[.int .i64 a1_0, .int .i64 a1_1]] rfl (by (try simp only [List.map_toArray, List.map_cons, List.map_nil]); first | done | rfl | (simp only [List.length_drop, List.length_take]; rfl)) ?_; (with_reducible refine (laws_toPeg.calls a1_0 a1_1 t232 t233 _ A5.out).mono ?_); rintro e w12 ⟨rfl, hb⟩; refine ⟨_, rfl, ?_⟩; have n0_ := bb_ BK231 hb; have n1_ := Aside0.mk (below_step (hbg_) hb); clear BK231; clear HB; have BK231 := n0_; have HB := n1_; clear n0_ n1_; (try clear hb); (try clear hb2); (try clear hk); (try clear hi)) | ((with_reducible refine gate_callee (f := 28) rfl ?_); refine goesL_ (some 23) rfl rfl Try.func28 (by kernel_rfl) rfl #[.int .i64 a0, .agg #[.int .i64 t232, .int .i64 t233], .int .i64 a2, .int .i64 a3] rfl (by (try simp only [List.map_toArray, List.map_cons, List.map_nil]); first | done | rfl | (simp only [List.length_drop, List.length_take]; rfl)) ?_; (with_reducible refine (spec_MakePuzzle.calls k a0 t232 t233 a2 a3 t234 t235 t238 _ A6.out).mono ?_); rintro e w13 ⟨v236, rfl, ho0, hb⟩; refine ⟨_, rfl, ?_⟩; have n0_ := Aside0.mk (Kd.R_lower ho0 (below_size (hbg_))); have n1_ := bb_ BK231 hb; have n2_ := Aside0.mk (below_step (hbg_) hb); clear BK231; clear HB; have HO237 := n0_; have BK231 := n1_; have HB := n2_; clear n0_ n1_ n2_; (try clear hb); (try clear hb2); (try clear hk); (try clear hi); (try clear ho0)) | ((with_reducible refine gate_dst (N := 9) rfl ?_); refine box_event ?hg (N := 9) ?hd (cs := #[.int .i64 0, .slice none 0 0]) (t := 29) ?hr ?_; (case hd => rfl); (case hg => rfl); (case hr => first | (go_simp; done) | (go_simp; rfl)); intro gb239 hg w14 hbox hb; have n0_ := Aside0.mk (Kd.R_below (rk_ HO237.out) hb); have n1_ := bb_ BK231 hb; have n2_ := Aside0.mk (below_step (hbg_) hb); have n3_ := Aside0.mk (hbox); have n4_ := Aside0.mk ((by rw [hg]; exact (below_size (hbg_)) : w.heap.size ≤ gb239)); have n5_ := Aside0.mk ((by rw [hg]; exact (below_size (hbg_)) : w.heap.size ≤ gb239)); have n6_ := Aside0.mk ((by rw [hg]; exact Nat.ne_of_lt (blk_lt (bk_ BK231.out)) : gb231 ≠ gb239)); have n7_ := Aside0.mk ((by rw [hg]; exact Nat.ne_of_gt (blk_lt (bk_ BK231.out)) : gb239 ≠ gb231)); clear HO237; clear BK231; clear HB; have HO237 := n0_; have BK231 := n1_; have HB := n2_; have BK239 := n3_; have GW239 := n4_; have GE239 := n5_; have NB231_239 := n6_; have NB239_231 := n7_; clear n0_ n1_ n2_ n3_ n4_ n5_ n6_ n7_; clear hb hbox hg; have hnb15 := NB239_231.out; have hnc15 := NB231_239.out; have hcz16_0 : w14.cell? ⟨gb239, 0, none⟩ = some (.int .i64 0) := (blk_cell BK239.out 0).trans rfl; have hcz16_1 : w14.cell? ⟨gb239, 1, none⟩ = some (.slice none 0 0) := (blk_cell BK239.out 1).trans rfl; have hfz16_0 := blk_frozen BK239.out 0; have hfz16_1 := blk_frozen BK239.out 1; obtain ⟨Ao17, co17, eo17⟩ := Kd.R_slice HO237.out; subst eo17; have hcz18_0 : w14.cell? ⟨gb231, 0, none⟩ = some (.int .i64 a1_0) := (blk_cell BK231.out 0).trans rfl; have hcz18_1 : w14.cell? ⟨gb231, 1, none⟩ = some (.int .i64 a1_1) := (blk_cell BK231.out 1).trans rfl; have hfz18_0 := blk_frozen BK231.out 0; have hfz18_1 := blk_frozen BK231.out 1) | ((with_reducible refine gate_callee (f := 22) rfl ?_); refine goesL_ (some 29) rfl rfl Try.func22 (by kernel_rfl) rfl #[.agg #[.int .i64 a1_0, .int .i64 a1_1]] rfl (by (try simp only [List.map_toArray, List.map_cons, List.map_nil]); first | done | rfl | (simp only [List.length_drop, List.length_take]; rfl)) ?_; (with_reducible refine (laws_toPeg.calls a1_0 a1_1 t240 t241 _ A7.out).mono ?_); rintro e w19 ⟨rfl, hb⟩; refine ⟨_, rfl, ?_⟩; have n0_ := Aside0.mk (Kd.R_below (by (with_reducible repeat (first | apply Kd.R_alloc | apply Kd.R_drewN | apply Kd.R_drew)); exact (Kd.R_mono (Kd.R_far (p := ⟨gb239, 1, none⟩) (Kd.R_far (p := ⟨gb239, 0, none⟩) (Kd.R_types HO237.out BK239.out (by decide)) (fun _ hk => hk.2) (.int .i64 t234)) (fun _ hk => hk.2) (.slice Ao17 t235.length co17)) (fun _ h_ => h_.1))) hb); have n1_ := Aside0.mk (blk_below (g := gb231) (o := .cells #[.int .i64 a1_0, .int .i64 a1_1] 36 (0, 0)) (bf2_ BK231 NB231_239) hb); have n2_ := Aside0.mk (blk_below (g := gb239) (o := .cells #[.int .i64 t234, .slice Ao17 t235.length co17] 29 (0, 0)) (by (with_reducible repeat (first | refine blk_drewN ?_ _ | refine blk_drew ?_ | refine blk_alloc ?_ _)); refine blk_put (cs := #[.int .i64 t234, .slice none 0 0]) ?_ 1 _ rfl; (with_reducible repeat (first | refine blk_drewN ?_ _ | refine blk_drew ?_ | refine blk_alloc ?_ _)); refine blk_put (cs := #[.int .i64 0, .slice none 0 0]) ?_ 0 _ rfl; (with_reducible repeat (first | refine blk_drewN ?_ _ | refine blk_drew ?_ | refine blk_alloc ?_ _)); exact BK239.out) hb); have n3_ := Aside0.mk (below_step (hbg_) hb); clear HO237; clear BK231; clear BK239; clear HB; have HO237 := n0_; have BK231 := n1_; have BK239 := n2_; have HB := n3_; clear n0_ n1_ n2_ n3_; (try clear hb); (try clear hb2); (try clear hk); (try clear hi)) | ((with_reducible refine gate_callee (f := 29) rfl ?_); refine goesL_ (some 32) rfl rfl Try.func29 (by kernel_rfl) rfl #[.int .i64 a0, .agg #[.int .i64 t240, .int .i64 t241], .int .i64 a2, .int .i64 a3] rfl (by (try simp only [List.map_toArray, List.map_cons, List.map_nil]); first | done | rfl | (simp only [List.length_drop, List.length_take]; rfl)) ?_; (with_reducible refine (impl_MakePuzzle.calls k a0 t240 t241 a2 a3 t242 t243 t246 _ A8.out).mono ?_); rintro e w20 ⟨v244, rfl, ho0, hb⟩; refine ⟨_, rfl, ?_⟩; have n0_ := Aside0.mk (Kd.R_elder' (rk_ HO237.out) (Kd.R_base ho0) hb); have n1_ := Aside0.mk (Kd.R_lower (Kd.R_new' ho0 (Kd.R_lt (rk_ HO237.out))) (below_size (hbg_))); have n2_ := bb_ BK231 hb; have n3_ := bb_ BK239 hb; have n4_ := Aside0.mk (below_step (hbg_) hb); clear HO237; clear BK231; clear BK239; clear HB; have HO237 := n0_; have HO245 := n1_; have BK231 := n2_; have BK239 := n3_; have HB := n4_; clear n0_ n1_ n2_ n3_ n4_; (try clear hb); (try clear hb2); (try clear hk); (try clear hi); (try clear ho0)) | ((with_reducible refine gate_dst (N := 11) rfl ?_); refine box_event ?hg (N := 11) ?hd (cs := #[.int .i64 0, .slice none 0 0]) (t := 29) ?hr ?_; (case hd => rfl); (case hg => rfl); (case hr => first | (go_simp; done) | (go_simp; rfl)); intro gb247 hg w21 hbox hb; have n0_ := Aside0.mk (Kd.R_below (rk_ HO237.out) hb); have n1_ := Aside0.mk (Kd.R_below (rk_ HO245.out) hb); have n2_ := bb_ BK231 hb; have n3_ := bb_ BK239 hb; have n4_ := Aside0.mk (below_step (hbg_) hb); have n5_ := Aside0.mk (hbox); have n6_ := Aside0.mk ((by rw [hg]; exact (below_size (hbg_)) : w.heap.size ≤ gb247)); have n7_ := Aside0.mk ((by rw [hg]; exact (below_size (hbg_)) : w.heap.size ≤ gb247)); have n8_ := Aside0.mk ((by rw [hg]; exact Nat.ne_of_lt (blk_lt (bk_ BK231.out)) : gb231 ≠ gb247)); have n9_ := Aside0.mk ((by rw [hg]; exact Nat.ne_of_gt (blk_lt (bk_ BK231.out)) : gb247 ≠ gb231)); have n10_ := Aside0.mk ((by rw [hg]; exact Nat.ne_of_lt (blk_lt (bk_ BK239.out)) : gb239 ≠ gb247)); have n11_ := Aside0.mk ((by rw [hg]; exact Nat.ne_of_gt (blk_lt (bk_ BK239.out)) : gb247 ≠ gb239)); clear HO237; clear HO245; clear BK231; clear BK239; clear HB; have HO237 := n0_; have HO245 := n1_; have BK231 := n2_; have BK239 := n3_; have HB := n4_; have BK247 := n5_; have GW247 := n6_; have GE247 := n7_; have NB231_247 := n8_; have NB247_231 := n9_; have NB239_247 := n10_; have NB247_239 := n11_; clear n0_ n1_ n2_ n3_ n4_ n5_ n6_ n7_ n8_ n9_ n10_ n11_; clear hb hbox hg; have hnb22 := NB247_231.out; have hnc22 := NB231_247.out; have hnb23 := NB247_239.out; have hnc23 := NB239_247.out; have hcz24_0 : w21.cell? ⟨gb247, 0, none⟩ = some (.int .i64 0) := (blk_cell BK247.out 0).trans rfl; have hcz24_1 : w21.cell? ⟨gb247, 1, none⟩ = some (.slice none 0 0) := (blk_cell BK247.out 1).trans rfl; have hfz24_0 := blk_frozen BK247.out 0; have hfz24_1 := blk_frozen BK247.out 1; obtain ⟨Ao25, co25, eo25⟩ := Kd.R_slice HO245.out; subst eo25))
  (try simp only [Act.put, List.setIfInBounds_toArray, List.set_cons_zero, List.set_cons_succ])
  go_cut [43] (fun v43 wc => ∃ (kq : Nat) (x43_8 : Bool), v43 = .bool x43_8 ∧ Aside0 (laws_FnExactMakePuzzle.j0 kq a0 a2 a3 t238 x43_8 a1_0 a1_1 t234 t235 t242 t243 = some r) ∧ Aside0 (kq ≤ k) ∧ Aside0 (Kd.R k39 39 wc w.heap.size (fun k_ => some k_ ≠ ((.slice Ao25 t243.length co25) : Value).ownBlock) (.slice Ao17 t235.length co17) t235) ∧ Aside0 (Kd.R k39 39 wc w.heap.size (fun k_ => some k_ ≠ ((.slice Ao17 t235.length co17) : Value).ownBlock) (.slice Ao25 t243.length co25) t243) ∧ Aside0 (wc.heap[gb231]? = some (.cells #[.int .i64 a1_0, .int .i64 a1_1] 36 (0, 0))) ∧ Aside0 (wc.heap[gb239]? = some (.cells #[.int .i64 t234, (.slice Ao17 t235.length co17)] 29 (0, 0))) ∧ Aside0 (wc.heap[gb247]? = some (.cells #[.int .i64 t242, (.slice Ao25 t243.length co25)] 29 (0, 0))) ∧ Aside0 (Below w.heap.size w wc))
  case first =>
    have H := HC9.out
    clear HC9
    replace H := Option.bind_eq_some_iff.mp H
    obtain ⟨t248, A260, H⟩ := H
    replace H : (if t248 = true then (laws_FnExactMakePuzzle.j0 k a0 a2 a3 t238 (t246 != t238) a1_0 a1_1 t234 t235 t242 t243) else (laws_FnExactMakePuzzle.j0 k a0 a2 a3 t238 true a1_0 a1_1 t234 t235 t242 t243)) = some r := H
    have A26 := Aside0.mk A260
    clear A260
    by_cases c27 : t248 = true
    · subst c27
      have H1 : (laws_FnExactMakePuzzle.j0 k a0 a2 a3 t238 (t246 != t238) a1_0 a1_1 t234 t235 t242 t243) = some r := by rw [if_pos rfl] at H; exact H
      clear H
      have H := H1
      clear H1
      have H' := Aside0.mk H
      clear H
      have hnb28 := NB247_231.out
      have hnc28 := NB231_247.out
      have hnb29 := NB247_239.out
      have hnc29 := NB239_247.out
      have hcz30_0 : w21.cell? ⟨gb247, 0, none⟩ = some (.int .i64 0) := (blk_cell BK247.out 0).trans rfl
      have hcz30_1 : w21.cell? ⟨gb247, 1, none⟩ = some (.slice none 0 0) := (blk_cell BK247.out 1).trans rfl
      have hfz30_0 := blk_frozen BK247.out 0
      have hfz30_1 := blk_frozen BK247.out 1
      have hnb31 := NB239_231.out
      have hnc31 := NB231_239.out
      have hcz32_0 : w21.cell? ⟨gb239, 0, none⟩ = some (.int .i64 t234) := (blk_cell BK239.out 0).trans rfl
      have hcz32_1 : w21.cell? ⟨gb239, 1, none⟩ = some (.slice Ao17 t235.length co17) := (blk_cell BK239.out 1).trans rfl
      have hfz32_0 := blk_frozen BK239.out 0
      have hfz32_1 := blk_frozen BK239.out 1
      go_wp2_with (first | ((with_reducible refine gate_callee (f := 19) rfl ?_); refine goesL_ (some 37) rfl rfl Try.func19 (by kernel_rfl) rfl #[.agg #[.int .i64 t242, .slice Ao25 t243.length co25], .agg #[.int .i64 t234, .slice Ao17 t235.length co17]] rfl (by (try simp only [List.map_toArray, List.map_cons, List.map_nil]); first | done | rfl | (simp only [List.length_drop, List.length_take]; rfl)) ?_; (with_reducible refine (laws_eqPuzzle.calls k t242 _ _ t243 t234 _ _ t235 true _ ?side1 ?side2 ?side3 ?side4 A26.out).mono ?_); (case side1 => refine (Kd.R_reads' (e := 39) (base := w.heap.size) (ok := fun k_ => (True ∧ some k_ ≠ (.slice Ao17 t235.length co17 : Value).ownBlock)) (n := t243.length) (c := co25) ?_).2.2; exact (by (with_reducible repeat (first | apply Kd.R_alloc | apply Kd.R_drewN | apply Kd.R_drew)); exact (Kd.R_mono (Kd.R_far (p := ⟨gb247, 1, none⟩) (Kd.R_far (p := ⟨gb247, 0, none⟩) (Kd.R_types HO245.out BK247.out (by decide)) (fun _ hk => hk.2) (.int .i64 t242)) (fun _ hk => hk.2) (.slice Ao25 t243.length co25)) (fun _ h_ => h_.1)))); (case side2 => exact (Kd.R_reads' HO245.out).2.1); (case side3 => refine (Kd.R_reads' (e := 39) (base := w.heap.size) (ok := fun k_ => (True ∧ some k_ ≠ (.slice Ao25 t243.length co25 : Value).ownBlock)) (n := t235.length) (c := co17) ?_).2.2; exact (by (with_reducible repeat (first | apply Kd.R_alloc | apply Kd.R_drewN | apply Kd.R_drew)); exact (Kd.R_mono (Kd.R_far (p := ⟨gb247, 1, none⟩) (Kd.R_far (p := ⟨gb247, 0, none⟩) (Kd.R_types HO237.out BK247.out (by decide)) (fun _ hk => hk.2) (.int .i64 t242)) (fun _ hk => hk.2) (.slice Ao25 t243.length co25)) (fun _ h_ => h_.1)))); (case side4 => exact (Kd.R_reads' HO237.out).2.1); rintro e w33 ⟨rfl, hb⟩; refine ⟨_, rfl, ?_⟩; have n0_ := Aside0.mk (Kd.R_below (by (with_reducible repeat (first | apply Kd.R_alloc | apply Kd.R_drewN | apply Kd.R_drew)); exact (Kd.R_mono (Kd.R_far (p := ⟨gb247, 1, none⟩) (Kd.R_far (p := ⟨gb247, 0, none⟩) (Kd.R_types HO237.out BK247.out (by decide)) (fun _ hk => hk.2) (.int .i64 t242)) (fun _ hk => hk.2) (.slice Ao25 t243.length co25)) (fun _ h_ => h_.1))) hb); have n1_ := Aside0.mk (Kd.R_below (by (with_reducible repeat (first | apply Kd.R_alloc | apply Kd.R_drewN | apply Kd.R_drew)); exact (Kd.R_mono (Kd.R_far (p := ⟨gb247, 1, none⟩) (Kd.R_far (p := ⟨gb247, 0, none⟩) (Kd.R_types HO245.out BK247.out (by decide)) (fun _ hk => hk.2) (.int .i64 t242)) (fun _ hk => hk.2) (.slice Ao25 t243.length co25)) (fun _ h_ => h_.1))) hb); have n2_ := Aside0.mk (blk_below (g := gb231) (o := .cells #[.int .i64 a1_0, .int .i64 a1_1] 36 (0, 0)) (bf2_ BK231 NB231_247) hb); have n3_ := Aside0.mk (blk_below (g := gb239) (o := .cells #[.int .i64 t234, .slice Ao17 t235.length co17] 29 (0, 0)) (bf2_ BK239 NB239_247) hb); have n4_ := Aside0.mk (blk_below (g := gb247) (o := .cells #[.int .i64 t242, .slice Ao25 t243.length co25] 29 (0, 0)) (by (with_reducible repeat (first | refine blk_drewN ?_ _ | refine blk_drew ?_ | refine blk_alloc ?_ _)); refine blk_put (cs := #[.int .i64 t242, .slice none 0 0]) ?_ 1 _ rfl; (with_reducible repeat (first | refine blk_drewN ?_ _ | refine blk_drew ?_ | refine blk_alloc ?_ _)); refine blk_put (cs := #[.int .i64 0, .slice none 0 0]) ?_ 0 _ rfl; (with_reducible repeat (first | refine blk_drewN ?_ _ | refine blk_drew ?_ | refine blk_alloc ?_ _)); exact BK247.out) hb); have n5_ := Aside0.mk (below_step (hbg_) hb); clear HO237; clear HO245; clear BK231; clear BK239; clear BK247; clear HB; have HO237 := n0_; have HO245 := n1_; have BK231 := n2_; have BK239 := n3_; have BK247 := n4_; have HB := n5_; clear n0_ n1_ n2_ n3_ n4_ n5_; (try clear hb); (try clear hb2); (try clear hk); (try clear hi)))
      go_meet
      case rel => exact ⟨_, ((t246 != t238)), (by first | rfl | (simp; done) | (simp [*]; done)), H', ⟨by first | omega | exact Nat.le_refl _⟩, ⟨by (with_reducible repeat (first | apply Kd.R_alloc | apply Kd.R_drewN | apply Kd.R_drew)); exact Kd.R_mono HO237.out (fun _ hk => hk.2)⟩, ⟨by (with_reducible repeat (first | apply Kd.R_alloc | apply Kd.R_drewN | apply Kd.R_drew)); exact Kd.R_mono HO245.out (fun _ hk => hk.2)⟩, ⟨bk_ BK231.out⟩, ⟨bk_ BK239.out⟩, ⟨bk_ BK247.out⟩, ⟨hbg_⟩⟩
    · replace c27 := Bool.eq_false_iff.mpr c27
      subst c27
      have H1 : (laws_FnExactMakePuzzle.j0 k a0 a2 a3 t238 true a1_0 a1_1 t234 t235 t242 t243) = some r := by rw [if_neg (show ¬ (false = true) by decide)] at H; exact H
      clear H
      have H := H1
      clear H1
      have H' := Aside0.mk H
      clear H
      have hnb34 := NB247_231.out
      have hnc34 := NB231_247.out
      have hnb35 := NB247_239.out
      have hnc35 := NB239_247.out
      have hcz36_0 : w21.cell? ⟨gb247, 0, none⟩ = some (.int .i64 0) := (blk_cell BK247.out 0).trans rfl
      have hcz36_1 : w21.cell? ⟨gb247, 1, none⟩ = some (.slice none 0 0) := (blk_cell BK247.out 1).trans rfl
      have hfz36_0 := blk_frozen BK247.out 0
      have hfz36_1 := blk_frozen BK247.out 1
      have hnb37 := NB239_231.out
      have hnc37 := NB231_239.out
      have hcz38_0 : w21.cell? ⟨gb239, 0, none⟩ = some (.int .i64 t234) := (blk_cell BK239.out 0).trans rfl
      have hcz38_1 : w21.cell? ⟨gb239, 1, none⟩ = some (.slice Ao17 t235.length co17) := (blk_cell BK239.out 1).trans rfl
      have hfz38_0 := blk_frozen BK239.out 0
      have hfz38_1 := blk_frozen BK239.out 1
      go_wp2_with (first | ((with_reducible refine gate_callee (f := 19) rfl ?_); refine goesL_ (some 37) rfl rfl Try.func19 (by kernel_rfl) rfl #[.agg #[.int .i64 t242, .slice Ao25 t243.length co25], .agg #[.int .i64 t234, .slice Ao17 t235.length co17]] rfl (by (try simp only [List.map_toArray, List.map_cons, List.map_nil]); first | done | rfl | (simp only [List.length_drop, List.length_take]; rfl)) ?_; (with_reducible refine (laws_eqPuzzle.calls k t242 _ _ t243 t234 _ _ t235 false _ ?side1 ?side2 ?side3 ?side4 A26.out).mono ?_); (case side1 => refine (Kd.R_reads' (e := 39) (base := w.heap.size) (ok := fun k_ => (True ∧ some k_ ≠ (.slice Ao17 t235.length co17 : Value).ownBlock)) (n := t243.length) (c := co25) ?_).2.2; exact (by (with_reducible repeat (first | apply Kd.R_alloc | apply Kd.R_drewN | apply Kd.R_drew)); exact (Kd.R_mono (Kd.R_far (p := ⟨gb247, 1, none⟩) (Kd.R_far (p := ⟨gb247, 0, none⟩) (Kd.R_types HO245.out BK247.out (by decide)) (fun _ hk => hk.2) (.int .i64 t242)) (fun _ hk => hk.2) (.slice Ao25 t243.length co25)) (fun _ h_ => h_.1)))); (case side2 => exact (Kd.R_reads' HO245.out).2.1); (case side3 => refine (Kd.R_reads' (e := 39) (base := w.heap.size) (ok := fun k_ => (True ∧ some k_ ≠ (.slice Ao25 t243.length co25 : Value).ownBlock)) (n := t235.length) (c := co17) ?_).2.2; exact (by (with_reducible repeat (first | apply Kd.R_alloc | apply Kd.R_drewN | apply Kd.R_drew)); exact (Kd.R_mono (Kd.R_far (p := ⟨gb247, 1, none⟩) (Kd.R_far (p := ⟨gb247, 0, none⟩) (Kd.R_types HO237.out BK247.out (by decide)) (fun _ hk => hk.2) (.int .i64 t242)) (fun _ hk => hk.2) (.slice Ao25 t243.length co25)) (fun _ h_ => h_.1)))); (case side4 => exact (Kd.R_reads' HO237.out).2.1); rintro e w39 ⟨rfl, hb⟩; refine ⟨_, rfl, ?_⟩; have n0_ := Aside0.mk (Kd.R_below (by (with_reducible repeat (first | apply Kd.R_alloc | apply Kd.R_drewN | apply Kd.R_drew)); exact (Kd.R_mono (Kd.R_far (p := ⟨gb247, 1, none⟩) (Kd.R_far (p := ⟨gb247, 0, none⟩) (Kd.R_types HO237.out BK247.out (by decide)) (fun _ hk => hk.2) (.int .i64 t242)) (fun _ hk => hk.2) (.slice Ao25 t243.length co25)) (fun _ h_ => h_.1))) hb); have n1_ := Aside0.mk (Kd.R_below (by (with_reducible repeat (first | apply Kd.R_alloc | apply Kd.R_drewN | apply Kd.R_drew)); exact (Kd.R_mono (Kd.R_far (p := ⟨gb247, 1, none⟩) (Kd.R_far (p := ⟨gb247, 0, none⟩) (Kd.R_types HO245.out BK247.out (by decide)) (fun _ hk => hk.2) (.int .i64 t242)) (fun _ hk => hk.2) (.slice Ao25 t243.length co25)) (fun _ h_ => h_.1))) hb); have n2_ := Aside0.mk (blk_below (g := gb231) (o := .cells #[.int .i64 a1_0, .int .i64 a1_1] 36 (0, 0)) (bf2_ BK231 NB231_247) hb); have n3_ := Aside0.mk (blk_below (g := gb239) (o := .cells #[.int .i64 t234, .slice Ao17 t235.length co17] 29 (0, 0)) (bf2_ BK239 NB239_247) hb); have n4_ := Aside0.mk (blk_below (g := gb247) (o := .cells #[.int .i64 t242, .slice Ao25 t243.length co25] 29 (0, 0)) (by (with_reducible repeat (first | refine blk_drewN ?_ _ | refine blk_drew ?_ | refine blk_alloc ?_ _)); refine blk_put (cs := #[.int .i64 t242, .slice none 0 0]) ?_ 1 _ rfl; (with_reducible repeat (first | refine blk_drewN ?_ _ | refine blk_drew ?_ | refine blk_alloc ?_ _)); refine blk_put (cs := #[.int .i64 0, .slice none 0 0]) ?_ 0 _ rfl; (with_reducible repeat (first | refine blk_drewN ?_ _ | refine blk_drew ?_ | refine blk_alloc ?_ _)); exact BK247.out) hb); have n5_ := Aside0.mk (below_step (hbg_) hb); clear HO237; clear HO245; clear BK231; clear BK239; clear BK247; clear HB; have HO237 := n0_; have HO245 := n1_; have BK231 := n2_; have BK239 := n3_; have BK247 := n4_; have HB := n5_; clear n0_ n1_ n2_ n3_ n4_ n5_; (try clear hb); (try clear hb2); (try clear hk); (try clear hi)))
      go_meet
      case rel => exact ⟨_, (true), (by first | rfl | (simp; done) | (simp [*]; done)), H', ⟨by first | omega | exact Nat.le_refl _⟩, ⟨by (with_reducible repeat (first | apply Kd.R_alloc | apply Kd.R_drewN | apply Kd.R_drew)); exact Kd.R_mono HO237.out (fun _ hk => hk.2)⟩, ⟨by (with_reducible repeat (first | apply Kd.R_alloc | apply Kd.R_drewN | apply Kd.R_drew)); exact Kd.R_mono HO245.out (fun _ hk => hk.2)⟩, ⟨bk_ BK231.out⟩, ⟨bk_ BK239.out⟩, ⟨bk_ BK247.out⟩, ⟨hbg_⟩⟩
  case rest =>
    clear HC9
    try clear c1
    try clear c2
    try clear p2
    try clear c3
    try clear c6
    try clear c15
    try clear c19
    try clear c22
    try clear c23
    try clear c27
    try clear c28
    try clear c29
    try clear c31
    try clear c34
    try clear c35
    try clear c37
    try clear hcz11_0
    try clear hcz11_1
    try clear hcz16_0
    try clear hcz16_1
    try clear hcz18_0
    try clear hcz18_1
    try clear hcz24_0
    try clear hcz24_1
    try clear hcz30_0
    try clear hcz30_1
    try clear hcz32_0
    try clear hcz32_1
    try clear hcz36_0
    try clear hcz36_1
    try clear hcz38_0
    try clear hcz38_1
    try clear hfz11_0
    try clear hfz11_1
    try clear hfz16_0
    try clear hfz16_1
    try clear hfz18_0
    try clear hfz18_1
    try clear hfz24_0
    try clear hfz24_1
    try clear hfz30_0
    try clear hfz30_1
    try clear hfz32_0
    try clear hfz32_1
    try clear hfz36_0
    try clear hfz36_1
    try clear hfz38_0
    try clear hfz38_1
    obtain ⟨kq, x43_8, rfl, HA, HJ8, HO_240001, HO_248001, BK231, BK239, BK247, HB⟩ := hcut
    cases kq with
    | zero => exact absurd HA.out (by simp [laws_FnExactMakePuzzle.j0])
    | succ kj8 =>
      have H := HA.out
      clear HA
      simp only [laws_FnExactMakePuzzle.j0] at H
      by_cases c40 : x43_8 = true
      · subst c40
        have H1 : (some false) = some r := by rw [if_pos rfl] at H; exact H
        clear H
        have H := H1
        clear H1
        exact absurd (Option.some.inj H) (by rw [hr_]; decide)
      · replace c40 := Bool.eq_false_iff.mpr c40
        subst c40
        have H1 : ((laws_markPuzzle.f kj8 t242 t243 1).bind fun bt249 => ((laws_heldPuzzle.f kj8 t242 bt249.2 1).bind fun t251 => (if t251 < 0 then (some false) else (if t251 = bt249.1 then ((laws_toPeg.f a1_0 a1_1).bind fun bt252 => ((impl_MakePuzzle.f kj8 a0 bt252.1 bt252.2 a2 a3).bind fun bt254 => ((laws_eqPuzzle.f kj8 bt254.1 bt254.2.1 t234 t235).bind fun t260 => (if t260 = true then (laws_FnExactMakePuzzle.j1 kj8 bt249.1 (bt254.2.2 != t238) t242 bt249.2) else (laws_FnExactMakePuzzle.j1 kj8 bt249.1 true t242 bt249.2))))) else (some false))))) = some r := by rw [if_neg (show ¬ (false = true) by decide)] at H; exact H
        clear H
        have H := H1
        clear H1
        replace H := Option.bind_eq_some_iff.mp H
        obtain ⟨⟨t249, t250⟩, A410, H⟩ := H
        replace H : ((laws_heldPuzzle.f kj8 t242 t250 1).bind fun t251 => (if t251 < 0 then (some false) else (if t251 = t249 then ((laws_toPeg.f a1_0 a1_1).bind fun bt252 => ((impl_MakePuzzle.f kj8 a0 bt252.1 bt252.2 a2 a3).bind fun bt254 => ((laws_eqPuzzle.f kj8 bt254.1 bt254.2.1 t234 t235).bind fun t260 => (if t260 = true then (laws_FnExactMakePuzzle.j1 kj8 t249 (bt254.2.2 != t238) t242 t250) else (laws_FnExactMakePuzzle.j1 kj8 t249 true t242 t250))))) else (some false)))) = some r := H
        have A41 := Aside0.mk A410
        clear A410
        replace H := Option.bind_eq_some_iff.mp H
        obtain ⟨t251, A420, H⟩ := H
        replace H : (if t251 < 0 then (some false) else (if t251 = t249 then ((laws_toPeg.f a1_0 a1_1).bind fun bt252 => ((impl_MakePuzzle.f kj8 a0 bt252.1 bt252.2 a2 a3).bind fun bt254 => ((laws_eqPuzzle.f kj8 bt254.1 bt254.2.1 t234 t235).bind fun t260 => (if t260 = true then (laws_FnExactMakePuzzle.j1 kj8 t249 (bt254.2.2 != t238) t242 t250) else (laws_FnExactMakePuzzle.j1 kj8 t249 true t242 t250))))) else (some false))) = some r := H
        have A42 := Aside0.mk A420
        clear A420
        by_cases c43 : t251 < 0
        · rw [if_pos c43] at H
          have c43b0 : decide (t251 < 0) = true := decide_eq_true c43
          clear c43
          exact absurd (Option.some.inj H) (by rw [hr_]; decide)
        · rw [if_neg c43] at H
          have c43b0 : decide (t251 < 0) = false := decide_eq_false c43
          clear c43
          by_cases c44 : t251 = t249
          · rw [if_pos c44] at H
            have c44b0 : (t251 == t249) = true := beq_iff_eq.mpr c44
            have c44b1 : (t251 != t249) = false := bne_eq_false_iff_eq.mpr c44
            clear c44
            replace H := Option.bind_eq_some_iff.mp H
            obtain ⟨⟨t252, t253⟩, A450, H⟩ := H
            replace H : ((impl_MakePuzzle.f kj8 a0 t252 t253 a2 a3).bind fun bt254 => ((laws_eqPuzzle.f kj8 bt254.1 bt254.2.1 t234 t235).bind fun t260 => (if t260 = true then (laws_FnExactMakePuzzle.j1 kj8 t249 (bt254.2.2 != t238) t242 t250) else (laws_FnExactMakePuzzle.j1 kj8 t249 true t242 t250)))) = some r := H
            have A45 := Aside0.mk A450
            clear A450
            replace H := Option.bind_eq_some_iff.mp H
            obtain ⟨⟨t254, t255, t258⟩, A460, H⟩ := H
            replace H : ((laws_eqPuzzle.f kj8 t254 t255 t234 t235).bind fun t260 => (if t260 = true then (laws_FnExactMakePuzzle.j1 kj8 t249 (t258 != t238) t242 t250) else (laws_FnExactMakePuzzle.j1 kj8 t249 true t242 t250))) = some r := H
            have A46 := Aside0.mk A460
            clear A460
            have HC47 := Aside0.mk H
            clear H
            have hnb48 := NB247_231.out
            have hnc48 := NB231_247.out
            have hnb49 := NB247_239.out
            have hnc49 := NB239_247.out
            have hcz50_0 : wc.cell? ⟨gb247, 0, none⟩ = some (.int .i64 t242) := (blk_cell BK247.out 0).trans rfl
            have hcz50_1 : wc.cell? ⟨gb247, 1, none⟩ = some (.slice Ao25 t243.length co25) := (blk_cell BK247.out 1).trans rfl
            have hfz50_0 := blk_frozen BK247.out 0
            have hfz50_1 := blk_frozen BK247.out 1
            go_upto_region 14 with (first | ((with_reducible refine gate_callee (f := 26) rfl ?_); refine goesL_ (some 46) rfl rfl Try.func26 (by kernel_rfl) rfl #[.agg #[.int .i64 t242, .slice Ao25 t243.length co25], .int .i64 1] rfl (by (try simp only [List.map_toArray, List.map_cons, List.map_nil]); first | done | rfl | (simp only [List.length_drop, List.length_take]; rfl)) ?_; (with_reducible refine (laws_markPuzzle.calls kj8 t242 (fun k_ => some k_ = (.slice Ao25 t243.length co25 : Value).ownBlock) (.slice Ao25 t243.length co25) t243 1 t249 t250 w _ ?side1 ?side2 A41.out).mono ?_); (case side1 => repeat (first | (with_reducible first | exact HB.out | apply below_alloc | apply pw_below_drewN | apply below_drew1 | refine below_set ?_ GE231.out | refine below_set ?_ GE239.out | refine below_set ?_ GE247.out) | exact HB.out)); (case side2 => exact Kd.R_tight rfl HO_248001.out); rintro e w51 ⟨rfl, hy0, hb, hkp⟩; refine ⟨_, rfl, ?_⟩; have n0_ := Aside0.mk (Kd.R_mono (ok' := fun k_ => some k_ ≠ (.slice Ao25 t243.length co25 : Value).ownBlock) (Kd.R_keptB (HO_240001.out) hkp (fun k_ hk_ hs_ => (hk_) hs_)) (fun k_ hk_ => hk_.1)); have n1_ := Aside0.mk (Kd.R_reok rfl hy0 (fun k_ e_ => HO_248001.out.1 k_ e_)); have n2_ := Aside0.mk (blk_kept (bk_ BK231.out) hkp (fun hs_ => (fun e_ => (Kd.R_ne HO_248001.out BK231.out (by decide)) e_) hs_)); have n3_ := Aside0.mk (blk_kept (bk_ BK239.out) hkp (fun hs_ => (fun e_ => (Kd.R_ne HO_248001.out BK239.out (by decide)) e_) hs_)); have n4_ := Aside0.mk (blk_kept (bk_ BK247.out) hkp (fun hs_ => (fun e_ => (Kd.R_ne HO_248001.out BK247.out (by decide)) e_) hs_)); have n5_ := Aside0.mk (hb); clear HO_240001; clear HO_248001; clear BK231; clear BK239; clear BK247; clear HB; have HO_240001 := n0_; have HO_248001 := n1_; have BK231 := n2_; have BK239 := n3_; have BK247 := n4_; have HB := n5_; clear n0_ n1_ n2_ n3_ n4_ n5_; (try clear hb); (try clear hkp); (try clear hy0); have hcz52_0 : w51.cell? ⟨gb247, 0, none⟩ = some (.int .i64 t242) := (blk_cell BK247.out 0).trans rfl; have hcz52_1 : w51.cell? ⟨gb247, 1, none⟩ = some (.slice Ao25 t243.length co25) := (blk_cell BK247.out 1).trans rfl; have hfz52_0 := blk_frozen BK247.out 0; have hfz52_1 := blk_frozen BK247.out 1) | ((with_reducible refine gate_callee (f := 27) rfl ?_); refine goesL_ (some 49) rfl rfl Try.func27 (by kernel_rfl) rfl #[.agg #[.int .i64 t242, .slice Ao25 t250.length co25], .int .i64 1] rfl (by (try simp only [List.map_toArray, List.map_cons, List.map_nil]); first | done | (rw [show t250.length = t243.length from (Kd.R_reads' HO_248001.out).1.symm] <;> rfl) | rfl | (simp only [List.length_drop, List.length_take]; rfl)) ?_; (with_reducible refine (laws_heldPuzzle.calls kj8 t242 _ _ t250 1 t251 _ ?side1 ?side2 A42.out).mono ?_); (case side1 => repeat (first | exact (Kd.R_reads' HO_248001.out).2.2 | (with_reducible refine Kd.C_alloc ?_ _) | (with_reducible refine Kd.C_drewN ?_ _) | (with_reducible refine Kd.C_drew ?_))); (case side2 => rw [show t250.length = t243.length from (Kd.R_reads' HO_248001.out).1.symm]; exact (Kd.R_reads' HO_248001.out).2.1); rintro e w53 ⟨rfl, hb⟩; refine ⟨_, rfl, ?_⟩; have n0_ := Aside0.mk (Kd.R_below (rk_ HO_240001.out) hb); have n1_ := Aside0.mk (Kd.R_below (rk_ HO_248001.out) hb); have n2_ := bb_ BK231 hb; have n3_ := bb_ BK239 hb; have n4_ := bb_ BK247 hb; have n5_ := Aside0.mk (below_step (hbg_) hb); clear HO_240001; clear HO_248001; clear BK231; clear BK239; clear BK247; clear HB; have HO_240001 := n0_; have HO_248001 := n1_; have BK231 := n2_; have BK239 := n3_; have BK247 := n4_; have HB := n5_; clear n0_ n1_ n2_ n3_ n4_ n5_; (try clear hb); (try clear hb2); (try clear hk); (try clear hi); have hnb54 := NB231_239.out; have hnc54 := NB239_231.out; have hcz55_0 : w53.cell? ⟨gb231, 0, none⟩ = some (.int .i64 a1_0) := (blk_cell BK231.out 0).trans rfl; have hcz55_1 : w53.cell? ⟨gb231, 1, none⟩ = some (.int .i64 a1_1) := (blk_cell BK231.out 1).trans rfl; have hfz55_0 := blk_frozen BK231.out 0; have hfz55_1 := blk_frozen BK231.out 1) | ((with_reducible refine gate_callee (f := 22) rfl ?_); refine goesL_ (some 58) rfl rfl Try.func22 (by kernel_rfl) rfl #[.agg #[.int .i64 a1_0, .int .i64 a1_1]] rfl (by (try simp only [List.map_toArray, List.map_cons, List.map_nil]); first | done | rfl | (simp only [List.length_drop, List.length_take]; rfl)) ?_; (with_reducible refine (laws_toPeg.calls a1_0 a1_1 t252 t253 _ A45.out).mono ?_); rintro e w56 ⟨rfl, hb⟩; refine ⟨_, rfl, ?_⟩; have n0_ := Aside0.mk (Kd.R_below (rk_ HO_240001.out) hb); have n1_ := Aside0.mk (Kd.R_below (rk_ HO_248001.out) hb); have n2_ := bb_ BK231 hb; have n3_ := bb_ BK239 hb; have n4_ := bb_ BK247 hb; have n5_ := Aside0.mk (below_step (hbg_) hb); clear HO_240001; clear HO_248001; clear BK231; clear BK239; clear BK247; clear HB; have HO_240001 := n0_; have HO_248001 := n1_; have BK231 := n2_; have BK239 := n3_; have BK247 := n4_; have HB := n5_; clear n0_ n1_ n2_ n3_ n4_ n5_; (try clear hb); (try clear hb2); (try clear hk); (try clear hi)) | ((with_reducible refine gate_callee (f := 29) rfl ?_); refine goesL_ (some 61) rfl rfl Try.func29 (by kernel_rfl) rfl #[.int .i64 a0, .agg #[.int .i64 t252, .int .i64 t253], .int .i64 a2, .int .i64 a3] rfl (by (try simp only [List.map_toArray, List.map_cons, List.map_nil]); first | done | rfl | (simp only [List.length_drop, List.length_take]; rfl)) ?_; (with_reducible refine (impl_MakePuzzle.calls kj8 a0 t252 t253 a2 a3 t254 t255 t258 _ A46.out).mono ?_); rintro e w57 ⟨v256, rfl, ho0, hb⟩; refine ⟨_, rfl, ?_⟩; have n0_ := Aside0.mk (Kd.R_elder' (rk_ HO_240001.out) (Kd.R_base ho0) hb); have n1_ := Aside0.mk (Kd.R_elder' (rk_ HO_248001.out) (Kd.R_base ho0) hb); have n2_ := Aside0.mk (Kd.R_lower (Kd.R_new' (Kd.R_new' ho0 (Kd.R_lt (rk_ HO_240001.out))) (Kd.R_lt (rk_ HO_248001.out))) (below_size (hbg_))); have n3_ := bb_ BK231 hb; have n4_ := bb_ BK239 hb; have n5_ := bb_ BK247 hb; have n6_ := Aside0.mk (below_step (hbg_) hb); clear HO_240001; clear HO_248001; clear BK231; clear BK239; clear BK247; clear HB; have HO_240001 := n0_; have HO_248001 := n1_; have HO257 := n2_; have BK231 := n3_; have BK239 := n4_; have BK247 := n5_; have HB := n6_; clear n0_ n1_ n2_ n3_ n4_ n5_ n6_; (try clear hb); (try clear hb2); (try clear hk); (try clear hi); (try clear ho0)) | ((with_reducible refine gate_dst (N := 15) rfl ?_); refine box_event ?hg (N := 15) ?hd (cs := #[.int .i64 0, .slice none 0 0]) (t := 29) ?hr ?_; (case hd => rfl); (case hg => rfl); (case hr => first | (go_simp; done) | (go_simp; rfl)); intro gb259 hg w58 hbox hb; have n0_ := Aside0.mk (Kd.R_below (rk_ HO_240001.out) hb); have n1_ := Aside0.mk (Kd.R_below (rk_ HO_248001.out) hb); have n2_ := Aside0.mk (Kd.R_below (rk_ HO257.out) hb); have n3_ := bb_ BK231 hb; have n4_ := bb_ BK239 hb; have n5_ := bb_ BK247 hb; have n6_ := Aside0.mk (below_step (hbg_) hb); have n7_ := Aside0.mk (hbox); have n8_ := Aside0.mk ((by rw [hg]; exact (below_size (hbg_)) : w.heap.size ≤ gb259)); have n9_ := Aside0.mk ((by rw [hg]; exact (below_size (hbg_)) : w.heap.size ≤ gb259)); have n10_ := Aside0.mk ((by rw [hg]; exact Nat.ne_of_lt (blk_lt (bk_ BK231.out)) : gb231 ≠ gb259)); have n11_ := Aside0.mk ((by rw [hg]; exact Nat.ne_of_gt (blk_lt (bk_ BK231.out)) : gb259 ≠ gb231)); have n12_ := Aside0.mk ((by rw [hg]; exact Nat.ne_of_lt (blk_lt (bk_ BK239.out)) : gb239 ≠ gb259)); have n13_ := Aside0.mk ((by rw [hg]; exact Nat.ne_of_gt (blk_lt (bk_ BK239.out)) : gb259 ≠ gb239)); have n14_ := Aside0.mk ((by rw [hg]; exact Nat.ne_of_lt (blk_lt (bk_ BK247.out)) : gb247 ≠ gb259)); have n15_ := Aside0.mk ((by rw [hg]; exact Nat.ne_of_gt (blk_lt (bk_ BK247.out)) : gb259 ≠ gb247)); clear HO_240001; clear HO_248001; clear HO257; clear BK231; clear BK239; clear BK247; clear HB; have HO_240001 := n0_; have HO_248001 := n1_; have HO257 := n2_; have BK231 := n3_; have BK239 := n4_; have BK247 := n5_; have HB := n6_; have BK259 := n7_; have GW259 := n8_; have GE259 := n9_; have NB231_259 := n10_; have NB259_231 := n11_; have NB239_259 := n12_; have NB259_239 := n13_; have NB247_259 := n14_; have NB259_247 := n15_; clear n0_ n1_ n2_ n3_ n4_ n5_ n6_ n7_ n8_ n9_ n10_ n11_ n12_ n13_ n14_ n15_; clear hb hbox hg; have hnb59 := NB259_231.out; have hnc59 := NB231_259.out; have hnb60 := NB259_239.out; have hnc60 := NB239_259.out; have hnb61 := NB259_247.out; have hnc61 := NB247_259.out; have hcz62_0 : w58.cell? ⟨gb259, 0, none⟩ = some (.int .i64 0) := (blk_cell BK259.out 0).trans rfl; have hcz62_1 : w58.cell? ⟨gb259, 1, none⟩ = some (.slice none 0 0) := (blk_cell BK259.out 1).trans rfl; have hfz62_0 := blk_frozen BK259.out 0; have hfz62_1 := blk_frozen BK259.out 1; obtain ⟨Ao63, co63, eo63⟩ := Kd.R_slice HO257.out; subst eo63))
            (try simp only [Act.put, List.setIfInBounds_toArray, List.set_cons_zero, List.set_cons_succ])
            go_cut [72] (fun v72 wc => ∃ (kq : Nat) (x72_46 : Bool), v72 = .bool x72_46 ∧ Aside0 (laws_FnExactMakePuzzle.j1 kq t249 x72_46 t242 t250 = some r) ∧ Aside0 (kq ≤ kj8) ∧ Aside0 (Kd.R k39 39 wc w.heap.size (fun k_ => some k_ ≠ ((.slice Ao25 t243.length co25) : Value).ownBlock ∧ some k_ ≠ ((.slice Ao63 t255.length co63) : Value).ownBlock) (.slice Ao17 t235.length co17) t235) ∧ Aside0 (Kd.R k39 39 wc w.heap.size (fun k_ => some k_ ≠ ((.slice Ao17 t235.length co17) : Value).ownBlock ∧ some k_ ≠ ((.slice Ao63 t255.length co63) : Value).ownBlock) (.slice Ao25 t243.length co25) t250) ∧ Aside0 (Kd.R k39 39 wc w.heap.size (fun k_ => some k_ ≠ ((.slice Ao17 t235.length co17) : Value).ownBlock ∧ some k_ ≠ ((.slice Ao25 t243.length co25) : Value).ownBlock) (.slice Ao63 t255.length co63) t255) ∧ Aside0 (wc.heap[gb231]? = some (.cells #[.int .i64 a1_0, .int .i64 a1_1] 36 (0, 0))) ∧ Aside0 (wc.heap[gb239]? = some (.cells #[.int .i64 t234, (.slice Ao17 t235.length co17)] 29 (0, 0))) ∧ Aside0 (wc.heap[gb247]? = some (.cells #[.int .i64 t242, (.slice Ao25 t243.length co25)] 29 (0, 0))) ∧ Aside0 (wc.heap[gb259]? = some (.cells #[.int .i64 t254, (.slice Ao63 t255.length co63)] 29 (0, 0))) ∧ Aside0 (Below w.heap.size w wc))
            case first =>
              have H := HC47.out
              clear HC47
              replace H := Option.bind_eq_some_iff.mp H
              obtain ⟨t260, A640, H⟩ := H
              replace H : (if t260 = true then (laws_FnExactMakePuzzle.j1 kj8 t249 (t258 != t238) t242 t250) else (laws_FnExactMakePuzzle.j1 kj8 t249 true t242 t250)) = some r := H
              have A64 := Aside0.mk A640
              clear A640
              by_cases c65 : t260 = true
              · subst c65
                have H1 : (laws_FnExactMakePuzzle.j1 kj8 t249 (t258 != t238) t242 t250) = some r := by rw [if_pos rfl] at H; exact H
                clear H
                have H := H1
                clear H1
                have H' := Aside0.mk H
                clear H
                have hnb66 := NB259_231.out
                have hnc66 := NB231_259.out
                have hnb67 := NB259_239.out
                have hnc67 := NB239_259.out
                have hnb68 := NB259_247.out
                have hnc68 := NB247_259.out
                have hcz69_0 : w58.cell? ⟨gb259, 0, none⟩ = some (.int .i64 0) := (blk_cell BK259.out 0).trans rfl
                have hcz69_1 : w58.cell? ⟨gb259, 1, none⟩ = some (.slice none 0 0) := (blk_cell BK259.out 1).trans rfl
                have hfz69_0 := blk_frozen BK259.out 0
                have hfz69_1 := blk_frozen BK259.out 1
                have hnb70 := NB239_231.out
                have hnc70 := NB231_239.out
                have hnb71 := NB239_247.out
                have hnc71 := NB247_239.out
                have hcz72_0 : w58.cell? ⟨gb239, 0, none⟩ = some (.int .i64 t234) := (blk_cell BK239.out 0).trans rfl
                have hcz72_1 : w58.cell? ⟨gb239, 1, none⟩ = some (.slice Ao17 t235.length co17) := (blk_cell BK239.out 1).trans rfl
                have hfz72_0 := blk_frozen BK239.out 0
                have hfz72_1 := blk_frozen BK239.out 1
                go_wp2_with (first | ((with_reducible refine gate_callee (f := 19) rfl ?_); refine goesL_ (some 66) rfl rfl Try.func19 (by kernel_rfl) rfl #[.agg #[.int .i64 t254, .slice Ao63 t255.length co63], .agg #[.int .i64 t234, .slice Ao17 t235.length co17]] rfl (by (try simp only [List.map_toArray, List.map_cons, List.map_nil]); first | done | rfl | (simp only [List.length_drop, List.length_take]; rfl)) ?_; (with_reducible refine (laws_eqPuzzle.calls kj8 t254 _ _ t255 t234 _ _ t235 true _ ?side1 ?side2 ?side3 ?side4 A64.out).mono ?_); (case side1 => refine (Kd.R_reads' (e := 39) (base := w.heap.size) (ok := fun k_ => ((True ∧ some k_ ≠ (.slice Ao17 t235.length co17 : Value).ownBlock) ∧ some k_ ≠ (.slice Ao25 t243.length co25 : Value).ownBlock)) (n := t255.length) (c := co63) ?_).2.2; exact (by (with_reducible repeat (first | apply Kd.R_alloc | apply Kd.R_drewN | apply Kd.R_drew)); exact (Kd.R_mono (Kd.R_far (p := ⟨gb259, 1, none⟩) (Kd.R_far (p := ⟨gb259, 0, none⟩) (Kd.R_types HO257.out BK259.out (by decide)) (fun _ hk => hk.2) (.int .i64 t254)) (fun _ hk => hk.2) (.slice Ao63 t255.length co63)) (fun _ h_ => h_.1)))); (case side2 => exact (Kd.R_reads' HO257.out).2.1); (case side3 => refine (Kd.R_reads' (e := 39) (base := w.heap.size) (ok := fun k_ => (some k_ ≠ (.slice Ao25 t243.length co25 : Value).ownBlock ∧ some k_ ≠ (.slice Ao63 t255.length co63 : Value).ownBlock)) (n := t235.length) (c := co17) ?_).2.2; exact (by (with_reducible repeat (first | apply Kd.R_alloc | apply Kd.R_drewN | apply Kd.R_drew)); exact (Kd.R_mono (Kd.R_far (p := ⟨gb259, 1, none⟩) (Kd.R_far (p := ⟨gb259, 0, none⟩) (Kd.R_types HO_240001.out BK259.out (by decide)) (fun _ hk => hk.2) (.int .i64 t254)) (fun _ hk => hk.2) (.slice Ao63 t255.length co63)) (fun _ h_ => h_.1)))); (case side4 => exact (Kd.R_reads' HO_240001.out).2.1); rintro e w73 ⟨rfl, hb⟩; refine ⟨_, rfl, ?_⟩; have n0_ := Aside0.mk (Kd.R_below (by (with_reducible repeat (first | apply Kd.R_alloc | apply Kd.R_drewN | apply Kd.R_drew)); exact (Kd.R_mono (Kd.R_far (p := ⟨gb259, 1, none⟩) (Kd.R_far (p := ⟨gb259, 0, none⟩) (Kd.R_types HO_240001.out BK259.out (by decide)) (fun _ hk => hk.2) (.int .i64 t254)) (fun _ hk => hk.2) (.slice Ao63 t255.length co63)) (fun _ h_ => h_.1))) hb); have n1_ := Aside0.mk (Kd.R_below (by (with_reducible repeat (first | apply Kd.R_alloc | apply Kd.R_drewN | apply Kd.R_drew)); exact (Kd.R_mono (Kd.R_far (p := ⟨gb259, 1, none⟩) (Kd.R_far (p := ⟨gb259, 0, none⟩) (Kd.R_types HO_248001.out BK259.out (by decide)) (fun _ hk => hk.2) (.int .i64 t254)) (fun _ hk => hk.2) (.slice Ao63 t255.length co63)) (fun _ h_ => h_.1))) hb); have n2_ := Aside0.mk (Kd.R_below (by (with_reducible repeat (first | apply Kd.R_alloc | apply Kd.R_drewN | apply Kd.R_drew)); exact (Kd.R_mono (Kd.R_far (p := ⟨gb259, 1, none⟩) (Kd.R_far (p := ⟨gb259, 0, none⟩) (Kd.R_types HO257.out BK259.out (by decide)) (fun _ hk => hk.2) (.int .i64 t254)) (fun _ hk => hk.2) (.slice Ao63 t255.length co63)) (fun _ h_ => h_.1))) hb); have n3_ := Aside0.mk (blk_below (g := gb231) (o := .cells #[.int .i64 a1_0, .int .i64 a1_1] 36 (0, 0)) (bf2_ BK231 NB231_259) hb); have n4_ := Aside0.mk (blk_below (g := gb239) (o := .cells #[.int .i64 t234, .slice Ao17 t235.length co17] 29 (0, 0)) (bf2_ BK239 NB239_259) hb); have n5_ := Aside0.mk (blk_below (g := gb247) (o := .cells #[.int .i64 t242, .slice Ao25 t243.length co25] 29 (0, 0)) (bf2_ BK247 NB247_259) hb); have n6_ := Aside0.mk (blk_below (g := gb259) (o := .cells #[.int .i64 t254, .slice Ao63 t255.length co63] 29 (0, 0)) (by (with_reducible repeat (first | refine blk_drewN ?_ _ | refine blk_drew ?_ | refine blk_alloc ?_ _)); refine blk_put (cs := #[.int .i64 t254, .slice none 0 0]) ?_ 1 _ rfl; (with_reducible repeat (first | refine blk_drewN ?_ _ | refine blk_drew ?_ | refine blk_alloc ?_ _)); refine blk_put (cs := #[.int .i64 0, .slice none 0 0]) ?_ 0 _ rfl; (with_reducible repeat (first | refine blk_drewN ?_ _ | refine blk_drew ?_ | refine blk_alloc ?_ _)); exact BK259.out) hb); have n7_ := Aside0.mk (below_step (hbg_) hb); clear HO_240001; clear HO_248001; clear HO257; clear BK231; clear BK239; clear BK247; clear BK259; clear HB; have HO_240001 := n0_; have HO_248001 := n1_; have HO257 := n2_; have BK231 := n3_; have BK239 := n4_; have BK247 := n5_; have BK259 := n6_; have HB := n7_; clear n0_ n1_ n2_ n3_ n4_ n5_ n6_ n7_; (try clear hb); (try clear hb2); (try clear hk); (try clear hi)))
                go_meet
                case rel => exact ⟨_, ((t258 != t238)), (by first | rfl | (simp; done) | (simp [*]; done)), H', ⟨by have := HJ8.out; first | omega | exact Nat.le_refl _⟩, ⟨rk_ HO_240001.out⟩, ⟨rk_ HO_248001.out⟩, ⟨by (with_reducible repeat (first | apply Kd.R_alloc | apply Kd.R_drewN | apply Kd.R_drew)); exact Kd.R_mono HO257.out (fun _ hk => ⟨hk.1.2, hk.2⟩)⟩, ⟨bk_ BK231.out⟩, ⟨bk_ BK239.out⟩, ⟨bk_ BK247.out⟩, ⟨bk_ BK259.out⟩, ⟨hbg_⟩⟩
              · replace c65 := Bool.eq_false_iff.mpr c65
                subst c65
                have H1 : (laws_FnExactMakePuzzle.j1 kj8 t249 true t242 t250) = some r := by rw [if_neg (show ¬ (false = true) by decide)] at H; exact H
                clear H
                have H := H1
                clear H1
                have H' := Aside0.mk H
                clear H
                have hnb74 := NB259_231.out
                have hnc74 := NB231_259.out
                have hnb75 := NB259_239.out
                have hnc75 := NB239_259.out
                have hnb76 := NB259_247.out
                have hnc76 := NB247_259.out
                have hcz77_0 : w58.cell? ⟨gb259, 0, none⟩ = some (.int .i64 0) := (blk_cell BK259.out 0).trans rfl
                have hcz77_1 : w58.cell? ⟨gb259, 1, none⟩ = some (.slice none 0 0) := (blk_cell BK259.out 1).trans rfl
                have hfz77_0 := blk_frozen BK259.out 0
                have hfz77_1 := blk_frozen BK259.out 1
                have hnb78 := NB239_231.out
                have hnc78 := NB231_239.out
                have hnb79 := NB239_247.out
                have hnc79 := NB247_239.out
                have hcz80_0 : w58.cell? ⟨gb239, 0, none⟩ = some (.int .i64 t234) := (blk_cell BK239.out 0).trans rfl
                have hcz80_1 : w58.cell? ⟨gb239, 1, none⟩ = some (.slice Ao17 t235.length co17) := (blk_cell BK239.out 1).trans rfl
                have hfz80_0 := blk_frozen BK239.out 0
                have hfz80_1 := blk_frozen BK239.out 1
                go_wp2_with (first | ((with_reducible refine gate_callee (f := 19) rfl ?_); refine goesL_ (some 66) rfl rfl Try.func19 (by kernel_rfl) rfl #[.agg #[.int .i64 t254, .slice Ao63 t255.length co63], .agg #[.int .i64 t234, .slice Ao17 t235.length co17]] rfl (by (try simp only [List.map_toArray, List.map_cons, List.map_nil]); first | done | rfl | (simp only [List.length_drop, List.length_take]; rfl)) ?_; (with_reducible refine (laws_eqPuzzle.calls kj8 t254 _ _ t255 t234 _ _ t235 false _ ?side1 ?side2 ?side3 ?side4 A64.out).mono ?_); (case side1 => refine (Kd.R_reads' (e := 39) (base := w.heap.size) (ok := fun k_ => ((True ∧ some k_ ≠ (.slice Ao17 t235.length co17 : Value).ownBlock) ∧ some k_ ≠ (.slice Ao25 t243.length co25 : Value).ownBlock)) (n := t255.length) (c := co63) ?_).2.2; exact (by (with_reducible repeat (first | apply Kd.R_alloc | apply Kd.R_drewN | apply Kd.R_drew)); exact (Kd.R_mono (Kd.R_far (p := ⟨gb259, 1, none⟩) (Kd.R_far (p := ⟨gb259, 0, none⟩) (Kd.R_types HO257.out BK259.out (by decide)) (fun _ hk => hk.2) (.int .i64 t254)) (fun _ hk => hk.2) (.slice Ao63 t255.length co63)) (fun _ h_ => h_.1)))); (case side2 => exact (Kd.R_reads' HO257.out).2.1); (case side3 => refine (Kd.R_reads' (e := 39) (base := w.heap.size) (ok := fun k_ => (some k_ ≠ (.slice Ao25 t243.length co25 : Value).ownBlock ∧ some k_ ≠ (.slice Ao63 t255.length co63 : Value).ownBlock)) (n := t235.length) (c := co17) ?_).2.2; exact (by (with_reducible repeat (first | apply Kd.R_alloc | apply Kd.R_drewN | apply Kd.R_drew)); exact (Kd.R_mono (Kd.R_far (p := ⟨gb259, 1, none⟩) (Kd.R_far (p := ⟨gb259, 0, none⟩) (Kd.R_types HO_240001.out BK259.out (by decide)) (fun _ hk => hk.2) (.int .i64 t254)) (fun _ hk => hk.2) (.slice Ao63 t255.length co63)) (fun _ h_ => h_.1)))); (case side4 => exact (Kd.R_reads' HO_240001.out).2.1); rintro e w81 ⟨rfl, hb⟩; refine ⟨_, rfl, ?_⟩; have n0_ := Aside0.mk (Kd.R_below (by (with_reducible repeat (first | apply Kd.R_alloc | apply Kd.R_drewN | apply Kd.R_drew)); exact (Kd.R_mono (Kd.R_far (p := ⟨gb259, 1, none⟩) (Kd.R_far (p := ⟨gb259, 0, none⟩) (Kd.R_types HO_240001.out BK259.out (by decide)) (fun _ hk => hk.2) (.int .i64 t254)) (fun _ hk => hk.2) (.slice Ao63 t255.length co63)) (fun _ h_ => h_.1))) hb); have n1_ := Aside0.mk (Kd.R_below (by (with_reducible repeat (first | apply Kd.R_alloc | apply Kd.R_drewN | apply Kd.R_drew)); exact (Kd.R_mono (Kd.R_far (p := ⟨gb259, 1, none⟩) (Kd.R_far (p := ⟨gb259, 0, none⟩) (Kd.R_types HO_248001.out BK259.out (by decide)) (fun _ hk => hk.2) (.int .i64 t254)) (fun _ hk => hk.2) (.slice Ao63 t255.length co63)) (fun _ h_ => h_.1))) hb); have n2_ := Aside0.mk (Kd.R_below (by (with_reducible repeat (first | apply Kd.R_alloc | apply Kd.R_drewN | apply Kd.R_drew)); exact (Kd.R_mono (Kd.R_far (p := ⟨gb259, 1, none⟩) (Kd.R_far (p := ⟨gb259, 0, none⟩) (Kd.R_types HO257.out BK259.out (by decide)) (fun _ hk => hk.2) (.int .i64 t254)) (fun _ hk => hk.2) (.slice Ao63 t255.length co63)) (fun _ h_ => h_.1))) hb); have n3_ := Aside0.mk (blk_below (g := gb231) (o := .cells #[.int .i64 a1_0, .int .i64 a1_1] 36 (0, 0)) (bf2_ BK231 NB231_259) hb); have n4_ := Aside0.mk (blk_below (g := gb239) (o := .cells #[.int .i64 t234, .slice Ao17 t235.length co17] 29 (0, 0)) (bf2_ BK239 NB239_259) hb); have n5_ := Aside0.mk (blk_below (g := gb247) (o := .cells #[.int .i64 t242, .slice Ao25 t243.length co25] 29 (0, 0)) (bf2_ BK247 NB247_259) hb); have n6_ := Aside0.mk (blk_below (g := gb259) (o := .cells #[.int .i64 t254, .slice Ao63 t255.length co63] 29 (0, 0)) (by (with_reducible repeat (first | refine blk_drewN ?_ _ | refine blk_drew ?_ | refine blk_alloc ?_ _)); refine blk_put (cs := #[.int .i64 t254, .slice none 0 0]) ?_ 1 _ rfl; (with_reducible repeat (first | refine blk_drewN ?_ _ | refine blk_drew ?_ | refine blk_alloc ?_ _)); refine blk_put (cs := #[.int .i64 0, .slice none 0 0]) ?_ 0 _ rfl; (with_reducible repeat (first | refine blk_drewN ?_ _ | refine blk_drew ?_ | refine blk_alloc ?_ _)); exact BK259.out) hb); have n7_ := Aside0.mk (below_step (hbg_) hb); clear HO_240001; clear HO_248001; clear HO257; clear BK231; clear BK239; clear BK247; clear BK259; clear HB; have HO_240001 := n0_; have HO_248001 := n1_; have HO257 := n2_; have BK231 := n3_; have BK239 := n4_; have BK247 := n5_; have BK259 := n6_; have HB := n7_; clear n0_ n1_ n2_ n3_ n4_ n5_ n6_ n7_; (try clear hb); (try clear hb2); (try clear hk); (try clear hi)))
                go_meet
                case rel => exact ⟨_, (true), (by first | rfl | (simp; done) | (simp [*]; done)), H', ⟨by have := HJ8.out; first | omega | exact Nat.le_refl _⟩, ⟨rk_ HO_240001.out⟩, ⟨rk_ HO_248001.out⟩, ⟨by (with_reducible repeat (first | apply Kd.R_alloc | apply Kd.R_drewN | apply Kd.R_drew)); exact Kd.R_mono HO257.out (fun _ hk => ⟨hk.1.2, hk.2⟩)⟩, ⟨bk_ BK231.out⟩, ⟨bk_ BK239.out⟩, ⟨bk_ BK247.out⟩, ⟨bk_ BK259.out⟩, ⟨hbg_⟩⟩
            case rest =>
              clear HC47
              try clear c1
              try clear c2
              try clear p2
              try clear c3
              try clear c4
              try clear c5
              try clear c6
              try clear c7
              try clear c15
              try clear c19
              try clear c22
              try clear c23
              try clear c26
              try clear c27
              try clear c28
              try clear c29
              try clear c31
              try clear c34
              try clear c35
              try clear c37
              try clear c40
              try clear c43
              try clear c43b0
              try clear c44
              try clear c44b0
              try clear c44b1
              try clear c48
              try clear c49
              try clear c54
              try clear c59
              try clear c60
              try clear c61
              try clear c65
              try clear c66
              try clear c67
              try clear c68
              try clear c70
              try clear c71
              try clear c74
              try clear c75
              try clear c76
              try clear c78
              try clear c79
              try clear hcz11_0
              try clear hcz11_1
              try clear hcz16_0
              try clear hcz16_1
              try clear hcz18_0
              try clear hcz18_1
              try clear hcz24_0
              try clear hcz24_1
              try clear hcz30_0
              try clear hcz30_1
              try clear hcz32_0
              try clear hcz32_1
              try clear hcz36_0
              try clear hcz36_1
              try clear hcz38_0
              try clear hcz38_1
              try clear hcz50_0
              try clear hcz50_1
              try clear hcz52_0
              try clear hcz52_1
              try clear hcz55_0
              try clear hcz55_1
              try clear hcz62_0
              try clear hcz62_1
              try clear hcz69_0
              try clear hcz69_1
              try clear hcz72_0
              try clear hcz72_1
              try clear hcz77_0
              try clear hcz77_1
              try clear hcz80_0
              try clear hcz80_1
              try clear hfz11_0
              try clear hfz11_1
              try clear hfz16_0
              try clear hfz16_1
              try clear hfz18_0
              try clear hfz18_1
              try clear hfz24_0
              try clear hfz24_1
              try clear hfz30_0
              try clear hfz30_1
              try clear hfz32_0
              try clear hfz32_1
              try clear hfz36_0
              try clear hfz36_1
              try clear hfz38_0
              try clear hfz38_1
              try clear hfz50_0
              try clear hfz50_1
              try clear hfz52_0
              try clear hfz52_1
              try clear hfz55_0
              try clear hfz55_1
              try clear hfz62_0
              try clear hfz62_1
              try clear hfz69_0
              try clear hfz69_1
              try clear hfz72_0
              try clear hfz72_1
              try clear hfz77_0
              try clear hfz77_1
              try clear hfz80_0
              try clear hfz80_1
              try clear p2
              obtain ⟨kq, x72_46, rfl, HA, HJ46, HO_240001, HO_248001, HO_260001, BK231, BK239, BK247, BK259, HB⟩ := hcut
              have hl248001_46 := (Kd.R_reads' HO_248001.out).1
              rw [hl248001_46] at HO_248001
              (try simp only [hl248001_46])
              (try simp only [hl248001_46] at BK231)
              (try simp only [hl248001_46] at BK239)
              (try simp only [hl248001_46] at BK247)
              (try simp only [hl248001_46] at BK259)
              (try simp only [hl248001_46] at HO_240001)
              (try simp only [hl248001_46] at HO_260001)
              cases kq with
              | zero => exact absurd HA.out (by simp [laws_FnExactMakePuzzle.j1])
              | succ kj46 =>
                have H := HA.out
                clear HA
                simp only [laws_FnExactMakePuzzle.j1] at H
                by_cases c82 : x72_46 = true
                · subst c82
                  have H1 : (some false) = some r := by rw [if_pos rfl] at H; exact H
                  clear H
                  have H := H1
                  clear H1
                  exact absurd (Option.some.inj H) (by rw [hr_]; decide)
                · replace c82 := Bool.eq_false_iff.mpr c82
                  subst c82
                  have H1 : ((laws_heldPuzzle.f kj46 t242 t250 1).bind fun t261 => (if t261 < 0 then (some false) else (if t261 = t249 then (some true) else (some false)))) = some r := by rw [if_neg (show ¬ (false = true) by decide)] at H; exact H
                  clear H
                  have H := H1
                  clear H1
                  replace H := Option.bind_eq_some_iff.mp H
                  obtain ⟨t261, A830, H⟩ := H
                  replace H : (if t261 < 0 then (some false) else (if t261 = t249 then (some true) else (some false))) = some r := H
                  have A83 := Aside0.mk A830
                  clear A830
                  by_cases c84 : t261 < 0
                  · rw [if_pos c84] at H
                    have c84b0 : decide (t261 < 0) = true := decide_eq_true c84
                    clear c84
                    exact absurd (Option.some.inj H) (by rw [hr_]; decide)
                  · rw [if_neg c84] at H
                    have c84b0 : decide (t261 < 0) = false := decide_eq_false c84
                    clear c84
                    by_cases c85 : t261 = t249
                    · rw [if_pos c85] at H
                      have c85b0 : (t261 == t249) = true := beq_iff_eq.mpr c85
                      have c85b1 : (t261 != t249) = false := bne_eq_false_iff_eq.mpr c85
                      clear c85
                      obtain rfl := Option.some.inj H
                      have hnb86 := NB247_231.out
                      have hnc86 := NB231_247.out
                      have hnb87 := NB247_239.out
                      have hnc87 := NB239_247.out
                      have hnb88 := NB247_259.out
                      have hnc88 := NB259_247.out
                      have hcz89_0 : wc.cell? ⟨gb247, 0, none⟩ = some (.int .i64 t242) := (blk_cell BK247.out 0).trans rfl
                      have hcz89_1 : wc.cell? ⟨gb247, 1, none⟩ = some (.slice Ao25 t250.length co25) := (blk_cell BK247.out 1).trans rfl
                      have hfz89_0 := blk_frozen BK247.out 0
                      have hfz89_1 := blk_frozen BK247.out 1
                      go_wp2_with (first | ((with_reducible refine gate_callee (f := 27) rfl ?_); refine goesL_ (some 75) rfl rfl Try.func27 (by kernel_rfl) rfl #[.agg #[.int .i64 t242, .slice Ao25 t250.length co25], .int .i64 1] rfl (by (try simp only [List.map_toArray, List.map_cons, List.map_nil]); first | done | rfl | (simp only [List.length_drop, List.length_take]; rfl)) ?_; (with_reducible refine (laws_heldPuzzle.calls kj46 t242 _ _ t250 1 t261 _ ?side1 ?side2 A83.out).mono ?_); (case side1 => repeat (first | exact (Kd.R_reads' HO_248001.out).2.2 | (with_reducible refine Kd.C_alloc ?_ _) | (with_reducible refine Kd.C_drewN ?_ _) | (with_reducible refine Kd.C_drew ?_))); (case side2 => exact (Kd.R_reads' HO_248001.out).2.1); rintro e w90 ⟨rfl, hb⟩; refine ⟨_, rfl, ?_⟩; have n0_ := Aside0.mk (Kd.R_below (rk_ HO_240001.out) hb); have n1_ := Aside0.mk (Kd.R_below (rk_ HO_248001.out) hb); have n2_ := Aside0.mk (Kd.R_below (rk_ HO_260001.out) hb); have n3_ := bb_ BK231 hb; have n4_ := bb_ BK239 hb; have n5_ := bb_ BK247 hb; have n6_ := bb_ BK259 hb; have n7_ := Aside0.mk (below_step (hbg_) hb); clear HO_240001; clear HO_248001; clear HO_260001; clear BK231; clear BK239; clear BK247; clear BK259; clear HB; have HO_240001 := n0_; have HO_248001 := n1_; have HO_260001 := n2_; have BK231 := n3_; have BK239 := n4_; have BK247 := n5_; have BK259 := n6_; have HB := n7_; clear n0_ n1_ n2_ n3_ n4_ n5_ n6_ n7_; (try clear hb); (try clear hb2); (try clear hk); (try clear hi)))
                      go_ret
                      exact ⟨by first | rfl | (simp [errW_none, errW_some] <;> rfl) | (simp [*, errW_none, errW_some] <;> rfl), hbg_⟩
                    · rw [if_neg c85] at H
                      have c85b0 : (t261 == t249) = false := beq_eq_false_iff_ne.mpr c85
                      have c85b1 : (t261 != t249) = true := bne_iff_ne.mpr c85
                      exact absurd (Option.some.inj H) (by rw [hr_]; decide)
          · rw [if_neg c44] at H
            have c44b0 : (t251 == t249) = false := beq_eq_false_iff_ne.mpr c44
            have c44b1 : (t251 != t249) = true := bne_iff_ne.mpr c44
            exact absurd (Option.some.inj H) (by rw [hr_]; decide)

end Go.Proofs.Ytlhiificglpgkaa.ML
