-- Written by a program of this session (wip/print/myprint.py) over the kit's printer; Lean checks it.
import Derived.Test.YtlhiificglpgkaaMWx0
import Derived.Test.YtlhiificglpgkaaMWx1
import Derived.Test.YtlhiificglpgkaaMWx3
import Derived.Test.YtlhiificglpgkaaMWx4
import Derived.Test.YtlhiificglpgkaaMWx8
import Derived.Test.YtlhiificglpgkaaMWx11
namespace Go.Proofs.Ytlhiificglpgkaa.MW
open Go.RowKit Go.Proofs.YtlhiificglpgkaaW.PrintWords Go.Proofs.YtlhiificglpgkaaW.PrintLast Go.Proofs.YtlhiificglpgkaaW.PrintMore Go.Proofs.YtlhiificglpgkaaV
attribute [local go_sem] max2_int min2_int max_two min_two max_three min_three max_four min_four   -- for this text's walks alone
set_option linter.unusedVariables false
set_option linter.unusedSimpArgs false

/-! ### laws_FnExactDropClue: function 7 -/
mutual
def laws_FnExactDropClue.j0 : Nat → Int → Bool → Bool → Bool → Int → List (S34) → Int → List (S39) → Int → List (S39) → Int → List (S39) → Option (Bool)
  | 0, _, _, _, _, _, _, _, _, _, _, _, _ => none
  | k + 1, x1, x7, x10, x44, x220000, x220001, x231000, x231001, x236000, x236001, x242000, x242001 => if x44 = true then (some false) else ((laws_toPuzzle.f k x220000 x220001).bind fun bt243 => ((laws_eqPuzzle.f k x236000 x236001 bt243.1 bt243.2).bind fun t247 => (if t247 = true then ((laws_markPuzzle.f k x236000 x236001 1).bind fun bt248 => (if bt248.1 < 0 then (laws_FnExactDropClue.j1 k x1 x7 true x220000 x220001 x231000 x231001 x242000 x242001) else ((laws_eqPuzzle.f k x242000 x242001 x231000 x231001).bind fun t250 => (if t250 = true then (laws_FnExactDropClue.j1 k x1 x7 (x10 != x7) x220000 x220001 x231000 x231001 x242000 x242001) else (laws_FnExactDropClue.j1 k x1 x7 true x220000 x220001 x231000 x231001 x242000 x242001))))) else (some false))))
def laws_FnExactDropClue.j1 : Nat → Int → Bool → Bool → Int → List (S34) → Int → List (S39) → Int → List (S39) → Option (Bool)
  | 0, _, _, _, _, _, _, _, _, _ => none
  | k + 1, x1, x7, x65, x220000, x220001, x231000, x231001, x242000, x242001 => if x65 = true then (some false) else ((laws_markPuzzle.f k x242000 x242001 1).bind fun bt251 => ((laws_heldPuzzle.f k x242000 bt251.2 1).bind fun t253 => (if t253 < 0 then (some false) else (if t253 = bt251.1 then ((laws_toPuzzle.f k x220000 x220001).bind fun bt254 => ((impl_DropClue.f k bt254.1 bt254.2 x1).bind fun bt258 => ((laws_eqPuzzle.f k bt258.1 bt258.2.1 x231000 x231001).bind fun t264 => (if t264 = true then (laws_FnExactDropClue.j2 k bt251.1 (bt258.2.2 != x7) x242000 bt251.2) else (laws_FnExactDropClue.j2 k bt251.1 true x242000 bt251.2))))) else (some false)))))
def laws_FnExactDropClue.j2 : Nat → Int → Bool → Int → List (S39) → Option (Bool)
  | 0, _, _, _, _ => none
  | k + 1, x12, x92, x242000, x242001 => if x92 = true then (some false) else ((laws_heldPuzzle.f k x242000 x242001 1).bind fun t265 => (if t265 < 0 then (some false) else (if t265 = x12 then (some true) else (some false))))
end
def laws_FnExactDropClue.f (k : Nat) (a0_0 : Int) (l0_1 : List (S34)) (a1 : Int) : Option (Bool) := (laws_szPuzzle.f a0_0 l0_1 1048576).bind fun t220 => (if t220 < 0 then (some true) else ((laws_toPuzzle.f k a0_0 l0_1).bind fun bt221 => ((spec_DropClue.f k bt221.1 bt221.2 a1).bind fun bt225 => ((laws_toPuzzle.f k a0_0 l0_1).bind fun bt231 => ((impl_DropClue.f k bt231.1 bt231.2 a1).bind fun bt236 => ((laws_eqPuzzle.f k bt236.1 bt236.2.1 bt225.1 bt225.2.1).bind fun t242 => (if t242 = true then (laws_FnExactDropClue.j0 k a1 bt225.2.2 bt236.2.2 (bt236.2.2 != bt225.2.2) a0_0 l0_1 bt225.1 bt225.2.1 bt231.1 bt231.2 bt236.1 bt236.2.1) else (laws_FnExactDropClue.j0 k a1 bt225.2.2 bt236.2.2 true a0_0 l0_1 bt225.1 bt225.2.1 bt231.1 bt231.2 bt236.1 bt236.2.1))))))))
theorem laws_FnExactDropClue.mono_l : ∀ k, (∀ y0 y1 y2 y3 y4 y5 y6 y7 y8 y9 y10 y11, LeO (laws_FnExactDropClue.j0 k y0 y1 y2 y3 y4 y5 y6 y7 y8 y9 y10 y11) (laws_FnExactDropClue.j0 (k + 1) y0 y1 y2 y3 y4 y5 y6 y7 y8 y9 y10 y11)) ∧ (∀ y0 y1 y2 y3 y4 y5 y6 y7 y8, LeO (laws_FnExactDropClue.j1 k y0 y1 y2 y3 y4 y5 y6 y7 y8) (laws_FnExactDropClue.j1 (k + 1) y0 y1 y2 y3 y4 y5 y6 y7 y8)) ∧ (∀ y0 y1 y2 y3, LeO (laws_FnExactDropClue.j2 k y0 y1 y2 y3) (laws_FnExactDropClue.j2 (k + 1) y0 y1 y2 y3))
  | 0 => ⟨fun _ _ _ _ _ _ _ _ _ _ _ _ r h => by simp [laws_FnExactDropClue.j0] at h, fun _ _ _ _ _ _ _ _ _ r h => by simp [laws_FnExactDropClue.j1] at h, fun _ _ _ _ r h => by simp [laws_FnExactDropClue.j2] at h⟩
  | k + 1 => by
    obtain ⟨ih0, ih1, ih2⟩ := laws_FnExactDropClue.mono_l k
    refine ⟨?_, ?_, ?_⟩
    · intro y0 y1 y2 y3 y4 y5 y6 y7 y8 y9 y10 y11
      unfold laws_FnExactDropClue.j0
      repeat' first
      | (with_reducible exact ih0 _ _ _ _ _ _ _ _ _ _ _ _)
      | (with_reducible exact ih1 _ _ _ _ _ _ _ _ _)
      | (with_reducible exact ih2 _ _ _ _)
      | (with_reducible exact impl_DropClue.mono _ _ _ _)
      | (with_reducible exact laws_eqPuzzle.mono _ _ _ _ _)
      | (with_reducible exact laws_heldPuzzle.mono _ _ _ _)
      | (with_reducible exact laws_markPuzzle.mono _ _ _ _)
      | (with_reducible exact laws_toPuzzle.mono _ _ _)
      | (with_reducible exact spec_DropClue.mono _ _ _ _)
      | (with_reducible exact LeO.refl _)
      | (with_reducible exact LeO.none _)
      | (with_reducible refine LeO.ite ?_ ?_)
      | (with_reducible refine LeO.bind ?_ (fun _ => ?_))
      | exact ih0 _ _ _ _ _ _ _ _ _ _ _ _
      | exact ih1 _ _ _ _ _ _ _ _ _
      | exact ih2 _ _ _ _
      | exact impl_DropClue.mono _ _ _ _
      | exact laws_eqPuzzle.mono _ _ _ _ _
      | exact laws_heldPuzzle.mono _ _ _ _
      | exact laws_markPuzzle.mono _ _ _ _
      | exact laws_toPuzzle.mono _ _ _
      | exact spec_DropClue.mono _ _ _ _
      | exact LeO.none _
      | refine LeO.ite ?_ ?_
      | refine LeO.bind ?_ (fun _ => ?_)
    · intro y0 y1 y2 y3 y4 y5 y6 y7 y8
      unfold laws_FnExactDropClue.j1
      repeat' first
      | (with_reducible exact ih0 _ _ _ _ _ _ _ _ _ _ _ _)
      | (with_reducible exact ih1 _ _ _ _ _ _ _ _ _)
      | (with_reducible exact ih2 _ _ _ _)
      | (with_reducible exact impl_DropClue.mono _ _ _ _)
      | (with_reducible exact laws_eqPuzzle.mono _ _ _ _ _)
      | (with_reducible exact laws_heldPuzzle.mono _ _ _ _)
      | (with_reducible exact laws_markPuzzle.mono _ _ _ _)
      | (with_reducible exact laws_toPuzzle.mono _ _ _)
      | (with_reducible exact spec_DropClue.mono _ _ _ _)
      | (with_reducible exact LeO.refl _)
      | (with_reducible exact LeO.none _)
      | (with_reducible refine LeO.ite ?_ ?_)
      | (with_reducible refine LeO.bind ?_ (fun _ => ?_))
      | exact ih0 _ _ _ _ _ _ _ _ _ _ _ _
      | exact ih1 _ _ _ _ _ _ _ _ _
      | exact ih2 _ _ _ _
      | exact impl_DropClue.mono _ _ _ _
      | exact laws_eqPuzzle.mono _ _ _ _ _
      | exact laws_heldPuzzle.mono _ _ _ _
      | exact laws_markPuzzle.mono _ _ _ _
      | exact laws_toPuzzle.mono _ _ _
      | exact spec_DropClue.mono _ _ _ _
      | exact LeO.none _
      | refine LeO.ite ?_ ?_
      | refine LeO.bind ?_ (fun _ => ?_)
    · intro y0 y1 y2 y3
      unfold laws_FnExactDropClue.j2
      repeat' first
      | (with_reducible exact ih0 _ _ _ _ _ _ _ _ _ _ _ _)
      | (with_reducible exact ih1 _ _ _ _ _ _ _ _ _)
      | (with_reducible exact ih2 _ _ _ _)
      | (with_reducible exact impl_DropClue.mono _ _ _ _)
      | (with_reducible exact laws_eqPuzzle.mono _ _ _ _ _)
      | (with_reducible exact laws_heldPuzzle.mono _ _ _ _)
      | (with_reducible exact laws_markPuzzle.mono _ _ _ _)
      | (with_reducible exact laws_toPuzzle.mono _ _ _)
      | (with_reducible exact spec_DropClue.mono _ _ _ _)
      | (with_reducible exact LeO.refl _)
      | (with_reducible exact LeO.none _)
      | (with_reducible refine LeO.ite ?_ ?_)
      | (with_reducible refine LeO.bind ?_ (fun _ => ?_))
      | exact ih0 _ _ _ _ _ _ _ _ _ _ _ _
      | exact ih1 _ _ _ _ _ _ _ _ _
      | exact ih2 _ _ _ _
      | exact impl_DropClue.mono _ _ _ _
      | exact laws_eqPuzzle.mono _ _ _ _ _
      | exact laws_heldPuzzle.mono _ _ _ _
      | exact laws_markPuzzle.mono _ _ _ _
      | exact laws_toPuzzle.mono _ _ _
      | exact spec_DropClue.mono _ _ _ _
      | exact LeO.none _
      | refine LeO.ite ?_ ?_
      | refine LeO.bind ?_ (fun _ => ?_)
theorem laws_FnExactDropClue.mono : ∀ a0 a1 a2 k, LeO (laws_FnExactDropClue.f k a0 a1 a2) (laws_FnExactDropClue.f (k + 1) a0 a1 a2) := by
  intro a0 a1 a2 k
  obtain ⟨ih0, ih1, ih2⟩ := laws_FnExactDropClue.mono_l k
  unfold laws_FnExactDropClue.f
  repeat' first
      | (with_reducible exact ih0 _ _ _ _ _ _ _ _ _ _ _ _)
      | (with_reducible exact ih1 _ _ _ _ _ _ _ _ _)
      | (with_reducible exact ih2 _ _ _ _)
      | (with_reducible exact impl_DropClue.mono _ _ _ _)
      | (with_reducible exact laws_eqPuzzle.mono _ _ _ _ _)
      | (with_reducible exact laws_heldPuzzle.mono _ _ _ _)
      | (with_reducible exact laws_markPuzzle.mono _ _ _ _)
      | (with_reducible exact laws_toPuzzle.mono _ _ _)
      | (with_reducible exact spec_DropClue.mono _ _ _ _)
      | (with_reducible exact LeO.refl _)
      | (with_reducible exact LeO.none _)
      | (with_reducible refine LeO.ite ?_ ?_)
      | (with_reducible refine LeO.bind ?_ (fun _ => ?_))
      | exact ih0 _ _ _ _ _ _ _ _ _ _ _ _
      | exact ih1 _ _ _ _ _ _ _ _ _
      | exact ih2 _ _ _ _
      | exact impl_DropClue.mono _ _ _ _
      | exact laws_eqPuzzle.mono _ _ _ _ _
      | exact laws_heldPuzzle.mono _ _ _ _
      | exact laws_markPuzzle.mono _ _ _ _
      | exact laws_toPuzzle.mono _ _ _
      | exact spec_DropClue.mono _ _ _ _
      | exact LeO.none _
      | refine LeO.ite ?_ ?_
      | refine LeO.bind ?_ (fun _ => ?_)
set_option maxHeartbeats 8000000 in
set_option maxRecDepth 100000 in
theorem laws_FnExactDropClue.calls (k : Nat) (a0_0 : Int) (A0_1 : Option Addr) (c0_1 : Nat) (l0_1 : List (S34)) (a1 : Int) (r : Bool) (w : World) (hr0_1 : Kd.C k34 w A0_1 l0_1.length l0_1) (hc0_1 : l0_1.length ≤ c0_1) (hr_ : r = true) (h : laws_FnExactDropClue.f k a0_0 l0_1 a1 = some r) :
    Calls Try.prog 7 #[.agg #[.int .i64 a0_0, .slice A0_1 l0_1.length c0_1], .int .i64 a1] w fun e w' => e = .returned (.bool r) ∧ Below w.heap.size w w' := by
  have hu24 := Try.underlying24
  have hu29 := Try.underlying29
  have HR0_1 := Aside0.mk hr0_1
  have HC0_1 := Aside0.mk hc0_1
  clear hr0_1 hc0_1
  have HB := Aside0.mk (Below.refl w.heap.size w)
  have H : ((laws_szPuzzle.f a0_0 l0_1 1048576).bind fun t220 => (if t220 < 0 then (some true) else ((laws_toPuzzle.f k a0_0 l0_1).bind fun bt221 => ((spec_DropClue.f k bt221.1 bt221.2 a1).bind fun bt225 => ((laws_toPuzzle.f k a0_0 l0_1).bind fun bt231 => ((impl_DropClue.f k bt231.1 bt231.2 a1).bind fun bt236 => ((laws_eqPuzzle.f k bt236.1 bt236.2.1 bt225.1 bt225.2.1).bind fun t242 => (if t242 = true then (laws_FnExactDropClue.j0 k a1 bt225.2.2 bt236.2.2 (bt236.2.2 != bt225.2.2) a0_0 l0_1 bt225.1 bt225.2.1 bt231.1 bt231.2 bt236.1 bt236.2.1) else (laws_FnExactDropClue.j0 k a1 bt225.2.2 bt236.2.2 true a0_0 l0_1 bt225.1 bt225.2.1 bt231.1 bt231.2 bt236.1 bt236.2.1))))))))) = some r := h
  clear h
  replace H := Option.bind_eq_some_iff.mp H
  obtain ⟨t220, A30, H⟩ := H
  replace H : (if t220 < 0 then (some true) else ((laws_toPuzzle.f k a0_0 l0_1).bind fun bt221 => ((spec_DropClue.f k bt221.1 bt221.2 a1).bind fun bt225 => ((laws_toPuzzle.f k a0_0 l0_1).bind fun bt231 => ((impl_DropClue.f k bt231.1 bt231.2 a1).bind fun bt236 => ((laws_eqPuzzle.f k bt236.1 bt236.2.1 bt225.1 bt225.2.1).bind fun t242 => (if t242 = true then (laws_FnExactDropClue.j0 k a1 bt225.2.2 bt236.2.2 (bt236.2.2 != bt225.2.2) a0_0 l0_1 bt225.1 bt225.2.1 bt231.1 bt231.2 bt236.1 bt236.2.1) else (laws_FnExactDropClue.j0 k a1 bt225.2.2 bt236.2.2 true a0_0 l0_1 bt225.1 bt225.2.1 bt231.1 bt231.2 bt236.1 bt236.2.1)))))))) = some r := H
  have A3 := Aside0.mk A30
  clear A30
  by_cases c4 : t220 < 0
  · rw [if_pos c4] at H
    have c4b0 : decide (t220 < 0) = true := decide_eq_true c4
    clear c4
    obtain rfl := Option.some.inj H
    go_enter Try.func7, Try.ntmps7
    go_wp2_with (first | ((with_reducible refine gate_dst (N := 2) rfl ?_); refine box_event ?hg (N := 2) ?hd (cs := #[.int .i64 a0_0, .slice A0_1 l0_1.length c0_1]) (t := 24) ?hr ?_; (case hd => rfl); (case hg => rfl); (case hr => first | (go_simp; done) | (go_simp; rfl)); intro gb219 hg w5 hbox hb; have n0_ := Aside0.mk (below_step (hb_) hb); have n1_ := Aside0.mk (hbox); have n2_ := Aside0.mk ((by rw [hg]; exact (below_size (hb_)) : w.heap.size ≤ gb219)); have n3_ := Aside0.mk ((by rw [hg]; exact (below_size (hb_)) : w.heap.size ≤ gb219)); clear HB; have HB := n0_; have BK219 := n1_; have GW219 := n2_; have GE219 := n3_; clear n0_ n1_ n2_ n3_; clear hb hbox hg; have hcz6_0 : w5.cell? ⟨gb219, 0, none⟩ = some (.int .i64 a0_0) := (blk_cell BK219.out 0).trans rfl; have hcz6_1 : w5.cell? ⟨gb219, 1, none⟩ = some (.slice A0_1 l0_1.length c0_1) := (blk_cell BK219.out 1).trans rfl; have hfz6_0 := blk_frozen BK219.out 0; have hfz6_1 := blk_frozen BK219.out 1) | ((with_reducible refine gate_callee (f := 15) rfl ?_); refine goesL_ (some 18) rfl rfl Try.func15 (by kernel_rfl) rfl #[.agg #[.int .i64 a0_0, .slice A0_1 l0_1.length c0_1], .int .i64 1048576] rfl ga_ ?_; (with_reducible refine (laws_szPuzzle.calls a0_0 _ _ l0_1 1048576 t220 _ ?side1 ?side2 A3.out).mono ?_); (case side1 => repeat (first | exact (Kd.C_below HR0_1.out HB.out) | (with_reducible refine Kd.C_alloc ?_ _) | (with_reducible refine Kd.C_drewN ?_ _) | (with_reducible refine Kd.C_drew ?_))); (case side2 => exact HC0_1.out); rintro e w7 ⟨rfl, hb⟩; refine ⟨_, rfl, ?_⟩; have n0_ := bb_ BK219 hb; have n1_ := Aside0.mk (below_step (hbg_) hb); clear BK219; clear HB; have BK219 := n0_; have HB := n1_; clear n0_ n1_; (try clear hb); (try clear hb2); (try clear hk); (try clear hi)))
    go_ret
    exact ⟨by first | rfl | (simp [errW_none, errW_some] <;> rfl) | (simp [*, errW_none, errW_some] <;> rfl), hbg_⟩
  · rw [if_neg c4] at H
    have c4b0 : decide (t220 < 0) = false := decide_eq_false c4
    clear c4
    replace H := Option.bind_eq_some_iff.mp H
    obtain ⟨⟨t221, t222⟩, A80, H⟩ := H
    replace H : ((spec_DropClue.f k t221 t222 a1).bind fun bt225 => ((laws_toPuzzle.f k a0_0 l0_1).bind fun bt231 => ((impl_DropClue.f k bt231.1 bt231.2 a1).bind fun bt236 => ((laws_eqPuzzle.f k bt236.1 bt236.2.1 bt225.1 bt225.2.1).bind fun t242 => (if t242 = true then (laws_FnExactDropClue.j0 k a1 bt225.2.2 bt236.2.2 (bt236.2.2 != bt225.2.2) a0_0 l0_1 bt225.1 bt225.2.1 bt231.1 bt231.2 bt236.1 bt236.2.1) else (laws_FnExactDropClue.j0 k a1 bt225.2.2 bt236.2.2 true a0_0 l0_1 bt225.1 bt225.2.1 bt231.1 bt231.2 bt236.1 bt236.2.1)))))) = some r := H
    have A8 := Aside0.mk A80
    clear A80
    replace H := Option.bind_eq_some_iff.mp H
    obtain ⟨⟨t225, t226, t229⟩, A90, H⟩ := H
    replace H : ((laws_toPuzzle.f k a0_0 l0_1).bind fun bt231 => ((impl_DropClue.f k bt231.1 bt231.2 a1).bind fun bt236 => ((laws_eqPuzzle.f k bt236.1 bt236.2.1 t225 t226).bind fun t242 => (if t242 = true then (laws_FnExactDropClue.j0 k a1 t229 bt236.2.2 (bt236.2.2 != t229) a0_0 l0_1 t225 t226 bt231.1 bt231.2 bt236.1 bt236.2.1) else (laws_FnExactDropClue.j0 k a1 t229 bt236.2.2 true a0_0 l0_1 t225 t226 bt231.1 bt231.2 bt236.1 bt236.2.1))))) = some r := H
    have A9 := Aside0.mk A90
    clear A90
    replace H := Option.bind_eq_some_iff.mp H
    obtain ⟨⟨t231, t232⟩, A100, H⟩ := H
    replace H : ((impl_DropClue.f k t231 t232 a1).bind fun bt236 => ((laws_eqPuzzle.f k bt236.1 bt236.2.1 t225 t226).bind fun t242 => (if t242 = true then (laws_FnExactDropClue.j0 k a1 t229 bt236.2.2 (bt236.2.2 != t229) a0_0 l0_1 t225 t226 t231 t232 bt236.1 bt236.2.1) else (laws_FnExactDropClue.j0 k a1 t229 bt236.2.2 true a0_0 l0_1 t225 t226 t231 t232 bt236.1 bt236.2.1)))) = some r := H
    have A10 := Aside0.mk A100
    clear A100
    replace H := Option.bind_eq_some_iff.mp H
    obtain ⟨⟨t236, t237, t240⟩, A110, H⟩ := H
    replace H : ((laws_eqPuzzle.f k t236 t237 t225 t226).bind fun t242 => (if t242 = true then (laws_FnExactDropClue.j0 k a1 t229 t240 (t240 != t229) a0_0 l0_1 t225 t226 t231 t232 t236 t237) else (laws_FnExactDropClue.j0 k a1 t229 t240 true a0_0 l0_1 t225 t226 t231 t232 t236 t237))) = some r := H
    have A11 := Aside0.mk A110
    clear A110
    have HC12 := Aside0.mk H
    clear H
    go_enter Try.func7, Try.ntmps7
    go_upto_region 8 with (first | ((with_reducible refine gate_dst (N := 2) rfl ?_); refine box_event ?hg (N := 2) ?hd (cs := #[.int .i64 a0_0, .slice A0_1 l0_1.length c0_1]) (t := 24) ?hr ?_; (case hd => rfl); (case hg => rfl); (case hr => first | (go_simp; done) | (go_simp; rfl)); intro gb219 hg w13 hbox hb; have n0_ := Aside0.mk (below_step (hb_) hb); have n1_ := Aside0.mk (hbox); have n2_ := Aside0.mk ((by rw [hg]; exact (below_size (hb_)) : w.heap.size ≤ gb219)); have n3_ := Aside0.mk ((by rw [hg]; exact (below_size (hb_)) : w.heap.size ≤ gb219)); clear HB; have HB := n0_; have BK219 := n1_; have GW219 := n2_; have GE219 := n3_; clear n0_ n1_ n2_ n3_; clear hb hbox hg; have hcz14_0 : w13.cell? ⟨gb219, 0, none⟩ = some (.int .i64 a0_0) := (blk_cell BK219.out 0).trans rfl; have hcz14_1 : w13.cell? ⟨gb219, 1, none⟩ = some (.slice A0_1 l0_1.length c0_1) := (blk_cell BK219.out 1).trans rfl; have hfz14_0 := blk_frozen BK219.out 0; have hfz14_1 := blk_frozen BK219.out 1) | ((with_reducible refine gate_callee (f := 15) rfl ?_); refine goesL_ (some 18) rfl rfl Try.func15 (by kernel_rfl) rfl #[.agg #[.int .i64 a0_0, .slice A0_1 l0_1.length c0_1], .int .i64 1048576] rfl ga_ ?_; (with_reducible refine (laws_szPuzzle.calls a0_0 _ _ l0_1 1048576 t220 _ ?side1 ?side2 A3.out).mono ?_); (case side1 => repeat (first | exact (Kd.C_below HR0_1.out HB.out) | (with_reducible refine Kd.C_alloc ?_ _) | (with_reducible refine Kd.C_drewN ?_ _) | (with_reducible refine Kd.C_drew ?_))); (case side2 => exact HC0_1.out); rintro e w15 ⟨rfl, hb⟩; refine ⟨_, rfl, ?_⟩; have n0_ := bb_ BK219 hb; have n1_ := Aside0.mk (below_step (hbg_) hb); clear BK219; clear HB; have BK219 := n0_; have HB := n1_; clear n0_ n1_; (try clear hb); (try clear hb2); (try clear hk); (try clear hi); have hcz16_0 : w15.cell? ⟨gb219, 0, none⟩ = some (.int .i64 a0_0) := (blk_cell BK219.out 0).trans rfl; have hcz16_1 : w15.cell? ⟨gb219, 1, none⟩ = some (.slice A0_1 l0_1.length c0_1) := (blk_cell BK219.out 1).trans rfl; have hfz16_0 := blk_frozen BK219.out 0; have hfz16_1 := blk_frozen BK219.out 1) | ((with_reducible refine gate_callee (f := 17) rfl ?_); refine goesL_ (some 23) rfl rfl Try.func17 (by kernel_rfl) rfl #[.agg #[.int .i64 a0_0, .slice A0_1 l0_1.length c0_1]] rfl ga_ ?_; (with_reducible refine (laws_toPuzzle.calls k a0_0 _ _ l0_1 t221 t222 _ ?side1 ?side2 A8.out).mono ?_); (case side1 => repeat (first | exact (Kd.C_below HR0_1.out HB.out) | (with_reducible refine Kd.C_alloc ?_ _) | (with_reducible refine Kd.C_drewN ?_ _) | (with_reducible refine Kd.C_drew ?_))); (case side2 => exact HC0_1.out); rintro e w17 ⟨v223, rfl, ho0, hb⟩; refine ⟨_, rfl, ?_⟩; have n0_ := Aside0.mk (Kd.R_lower ho0 (below_size (hbg_))); have n1_ := bb_ BK219 hb; have n2_ := Aside0.mk (below_step (hbg_) hb); clear BK219; clear HB; have HO224 := n0_; have BK219 := n1_; have HB := n2_; clear n0_ n1_ n2_; (try clear hb); (try clear hb2); (try clear hk); (try clear hi); (try clear ho0); obtain ⟨Ao18, co18, eo18⟩ := Kd.R_slice HO224.out; subst eo18) | ((with_reducible refine gate_callee (f := 30) rfl ?_); refine goesL_ (some 25) rfl rfl Try.func30 (by kernel_rfl) rfl #[.agg #[.int .i64 t221, .slice Ao18 t222.length co18], .int .i64 a1] rfl ga_ ?_; (with_reducible refine (spec_DropClue.calls k t221 _ _ t222 a1 t225 t226 t229 _ ?side1 ?side2 A9.out).mono ?_); (case side1 => repeat (first | exact (Kd.R_reads' HO224.out).2.2 | (with_reducible refine Kd.C_alloc ?_ _) | (with_reducible refine Kd.C_drewN ?_ _) | (with_reducible refine Kd.C_drew ?_))); (case side2 => exact (Kd.R_reads' HO224.out).2.1); rintro e w19 ⟨v227, rfl, ho0, hb⟩; refine ⟨_, rfl, ?_⟩; have n0_ := Aside0.mk (Kd.R_elder' (rk_ HO224.out) (Kd.R_base ho0) hb); have n1_ := Aside0.mk (Kd.R_lower (Kd.R_new' ho0 (Kd.R_lt (rk_ HO224.out))) (below_size (hbg_))); have n2_ := bb_ BK219 hb; have n3_ := Aside0.mk (below_step (hbg_) hb); clear HO224; clear BK219; clear HB; have HO224 := n0_; have HO228 := n1_; have BK219 := n2_; have HB := n3_; clear n0_ n1_ n2_ n3_; (try clear hb); (try clear hb2); (try clear hk); (try clear hi); (try clear ho0)) | ((with_reducible refine gate_dst (N := 6) rfl ?_); refine box_event ?hg (N := 6) ?hd (cs := #[.int .i64 0, .slice none 0 0]) (t := 29) ?hr ?_; (case hd => rfl); (case hg => rfl); (case hr => first | (go_simp; done) | (go_simp; rfl)); intro gb230 hg w20 hbox hb; have n0_ := Aside0.mk (Kd.R_below (rk_ HO224.out) hb); have n1_ := Aside0.mk (Kd.R_below (rk_ HO228.out) hb); have n2_ := bb_ BK219 hb; have n3_ := Aside0.mk (below_step (hbg_) hb); have n4_ := Aside0.mk (hbox); have n5_ := Aside0.mk ((by rw [hg]; exact (below_size (hbg_)) : w.heap.size ≤ gb230)); have n6_ := Aside0.mk ((by rw [hg]; exact (below_size (hbg_)) : w.heap.size ≤ gb230)); have n7_ := Aside0.mk ((by rw [hg]; exact Nat.ne_of_lt (blk_lt (bk_ BK219.out)) : gb219 ≠ gb230)); have n8_ := Aside0.mk ((by rw [hg]; exact Nat.ne_of_gt (blk_lt (bk_ BK219.out)) : gb230 ≠ gb219)); clear HO224; clear HO228; clear BK219; clear HB; have HO224 := n0_; have HO228 := n1_; have BK219 := n2_; have HB := n3_; have BK230 := n4_; have GW230 := n5_; have GE230 := n6_; have NB219_230 := n7_; have NB230_219 := n8_; clear n0_ n1_ n2_ n3_ n4_ n5_ n6_ n7_ n8_; clear hb hbox hg; have hnb21 := NB230_219.out; have hnc21 := NB219_230.out; have hcz22_0 : w20.cell? ⟨gb230, 0, none⟩ = some (.int .i64 0) := (blk_cell BK230.out 0).trans rfl; have hcz22_1 : w20.cell? ⟨gb230, 1, none⟩ = some (.slice none 0 0) := (blk_cell BK230.out 1).trans rfl; have hfz22_0 := blk_frozen BK230.out 0; have hfz22_1 := blk_frozen BK230.out 1; obtain ⟨Ao23, co23, eo23⟩ := Kd.R_slice HO228.out; subst eo23; have hcz24_0 : w20.cell? ⟨gb219, 0, none⟩ = some (.int .i64 a0_0) := (blk_cell BK219.out 0).trans rfl; have hcz24_1 : w20.cell? ⟨gb219, 1, none⟩ = some (.slice A0_1 l0_1.length c0_1) := (blk_cell BK219.out 1).trans rfl; have hfz24_0 := blk_frozen BK219.out 0; have hfz24_1 := blk_frozen BK219.out 1) | ((with_reducible refine gate_callee (f := 17) rfl ?_); refine goesL_ (some 29) rfl rfl Try.func17 (by kernel_rfl) rfl #[.agg #[.int .i64 a0_0, .slice A0_1 l0_1.length c0_1]] rfl ga_ ?_; (with_reducible refine (laws_toPuzzle.calls k a0_0 _ _ l0_1 t231 t232 _ ?side1 ?side2 A10.out).mono ?_); (case side1 => exact Kd.C_below HR0_1.out (hbg_)); (case side2 => exact HC0_1.out); rintro e w25 ⟨v233, rfl, ho0, hb⟩; refine ⟨_, rfl, ?_⟩; have n0_ := Aside0.mk (Kd.R_elder' (by (with_reducible repeat (first | apply Kd.R_alloc | apply Kd.R_drewN | apply Kd.R_drew)); exact (Kd.R_mono (Kd.R_far (p := ⟨gb230, 1, none⟩) (Kd.R_far (p := ⟨gb230, 0, none⟩) (Kd.R_types HO224.out BK230.out (by decide)) (fun _ hk => hk.2) (.int .i64 t225)) (fun _ hk => hk.2) (.slice Ao23 t226.length co23)) (fun _ h_ => h_.1))) (Kd.R_base ho0) hb); have n1_ := Aside0.mk (Kd.R_elder' (by (with_reducible repeat (first | apply Kd.R_alloc | apply Kd.R_drewN | apply Kd.R_drew)); exact (Kd.R_mono (Kd.R_far (p := ⟨gb230, 1, none⟩) (Kd.R_far (p := ⟨gb230, 0, none⟩) (Kd.R_types HO228.out BK230.out (by decide)) (fun _ hk => hk.2) (.int .i64 t225)) (fun _ hk => hk.2) (.slice Ao23 t226.length co23)) (fun _ h_ => h_.1))) (Kd.R_base ho0) hb); have n2_ := Aside0.mk (Kd.R_lower (Kd.R_new' (Kd.R_new' ho0 (Kd.R_lt (by (with_reducible repeat (first | apply Kd.R_alloc | apply Kd.R_drewN | apply Kd.R_drew)); exact (Kd.R_mono (Kd.R_far (p := ⟨gb230, 1, none⟩) (Kd.R_far (p := ⟨gb230, 0, none⟩) (Kd.R_types HO224.out BK230.out (by decide)) (fun _ hk => hk.2) (.int .i64 t225)) (fun _ hk => hk.2) (.slice Ao23 t226.length co23)) (fun _ h_ => h_.1))))) (Kd.R_lt (by (with_reducible repeat (first | apply Kd.R_alloc | apply Kd.R_drewN | apply Kd.R_drew)); exact (Kd.R_mono (Kd.R_far (p := ⟨gb230, 1, none⟩) (Kd.R_far (p := ⟨gb230, 0, none⟩) (Kd.R_types HO228.out BK230.out (by decide)) (fun _ hk => hk.2) (.int .i64 t225)) (fun _ hk => hk.2) (.slice Ao23 t226.length co23)) (fun _ h_ => h_.1))))) (below_size (hbg_))); have n3_ := Aside0.mk (blk_below (g := gb219) (o := .cells #[.int .i64 a0_0, .slice A0_1 l0_1.length c0_1] 24 (0, 0)) (bf2_ BK219 NB219_230) hb); have n4_ := Aside0.mk (blk_below (g := gb230) (o := .cells #[.int .i64 t225, .slice Ao23 t226.length co23] 29 (0, 0)) (by (with_reducible repeat (first | refine blk_drewN ?_ _ | refine blk_drew ?_ | refine blk_alloc ?_ _)); refine blk_put (cs := #[.int .i64 t225, .slice none 0 0]) ?_ 1 _ rfl; (with_reducible repeat (first | refine blk_drewN ?_ _ | refine blk_drew ?_ | refine blk_alloc ?_ _)); refine blk_put (cs := #[.int .i64 0, .slice none 0 0]) ?_ 0 _ rfl; (with_reducible repeat (first | refine blk_drewN ?_ _ | refine blk_drew ?_ | refine blk_alloc ?_ _)); exact BK230.out) hb); have n5_ := Aside0.mk (below_step (hbg_) hb); clear HO224; clear HO228; clear BK219; clear BK230; clear HB; have HO224 := n0_; have HO228 := n1_; have HO234 := n2_; have BK219 := n3_; have BK230 := n4_; have HB := n5_; clear n0_ n1_ n2_ n3_ n4_ n5_; (try clear hb); (try clear hb2); (try clear hk); (try clear hi); (try clear ho0)) | ((with_reducible refine gate_dst (N := 8) rfl ?_); refine box_event ?hg (N := 8) ?hd (cs := #[.int .i64 0, .slice none 0 0]) (t := 29) ?hr ?_; (case hd => rfl); (case hg => rfl); (case hr => first | (go_simp; done) | (go_simp; rfl)); intro gb235 hg w26 hbox hb; have n0_ := Aside0.mk (Kd.R_below (rk_ HO224.out) hb); have n1_ := Aside0.mk (Kd.R_below (rk_ HO228.out) hb); have n2_ := Aside0.mk (Kd.R_below (rk_ HO234.out) hb); have n3_ := bb_ BK219 hb; have n4_ := bb_ BK230 hb; have n5_ := Aside0.mk (below_step (hbg_) hb); have n6_ := Aside0.mk (hbox); have n7_ := Aside0.mk ((by rw [hg]; exact (below_size (hbg_)) : w.heap.size ≤ gb235)); have n8_ := Aside0.mk ((by rw [hg]; exact (below_size (hbg_)) : w.heap.size ≤ gb235)); have n9_ := Aside0.mk ((by rw [hg]; exact Nat.ne_of_lt (blk_lt (bk_ BK219.out)) : gb219 ≠ gb235)); have n10_ := Aside0.mk ((by rw [hg]; exact Nat.ne_of_gt (blk_lt (bk_ BK219.out)) : gb235 ≠ gb219)); have n11_ := Aside0.mk ((by rw [hg]; exact Nat.ne_of_lt (blk_lt (bk_ BK230.out)) : gb230 ≠ gb235)); have n12_ := Aside0.mk ((by rw [hg]; exact Nat.ne_of_gt (blk_lt (bk_ BK230.out)) : gb235 ≠ gb230)); clear HO224; clear HO228; clear HO234; clear BK219; clear BK230; clear HB; have HO224 := n0_; have HO228 := n1_; have HO234 := n2_; have BK219 := n3_; have BK230 := n4_; have HB := n5_; have BK235 := n6_; have GW235 := n7_; have GE235 := n8_; have NB219_235 := n9_; have NB235_219 := n10_; have NB230_235 := n11_; have NB235_230 := n12_; clear n0_ n1_ n2_ n3_ n4_ n5_ n6_ n7_ n8_ n9_ n10_ n11_ n12_; clear hb hbox hg; have hnb27 := NB235_219.out; have hnc27 := NB219_235.out; have hnb28 := NB235_230.out; have hnc28 := NB230_235.out; have hcz29_0 : w26.cell? ⟨gb235, 0, none⟩ = some (.int .i64 0) := (blk_cell BK235.out 0).trans rfl; have hcz29_1 : w26.cell? ⟨gb235, 1, none⟩ = some (.slice none 0 0) := (blk_cell BK235.out 1).trans rfl; have hfz29_0 := blk_frozen BK235.out 0; have hfz29_1 := blk_frozen BK235.out 1; obtain ⟨Ao30, co30, eo30⟩ := Kd.R_slice HO234.out; subst eo30) | ((with_reducible refine gate_callee (f := 31) rfl ?_); refine goesL_ (some 33) rfl rfl Try.func31 (by kernel_rfl) rfl #[.agg #[.int .i64 t231, .slice Ao30 t232.length co30], .int .i64 a1] rfl ga_ ?_; (with_reducible refine (impl_DropClue.calls k t231 _ _ t232 a1 t236 t237 t240 _ ?side1 ?side2 A11.out).mono ?_); (case side1 => refine (Kd.R_reads' (e := 39) (base := w.heap.size) (ok := fun k_ => ((True ∧ some k_ ≠ (.slice Ao18 t222.length co18 : Value).ownBlock) ∧ some k_ ≠ (.slice Ao23 t226.length co23 : Value).ownBlock)) (n := t232.length) (c := co30) ?_).2.2; exact (by (with_reducible repeat (first | apply Kd.R_alloc | apply Kd.R_drewN | apply Kd.R_drew)); exact (Kd.R_mono (Kd.R_far (p := ⟨gb235, 1, none⟩) (Kd.R_far (p := ⟨gb235, 0, none⟩) (Kd.R_types HO234.out BK235.out (by decide)) (fun _ hk => hk.2) (.int .i64 t231)) (fun _ hk => hk.2) (.slice Ao30 t232.length co30)) (fun _ h_ => h_.1)))); (case side2 => exact (Kd.R_reads' HO234.out).2.1); rintro e w31 ⟨v238, rfl, ho0, hb⟩; refine ⟨_, rfl, ?_⟩; have n0_ := Aside0.mk (Kd.R_elder' (by (with_reducible repeat (first | apply Kd.R_alloc | apply Kd.R_drewN | apply Kd.R_drew)); exact (Kd.R_mono (Kd.R_far (p := ⟨gb235, 1, none⟩) (Kd.R_far (p := ⟨gb235, 0, none⟩) (Kd.R_types HO224.out BK235.out (by decide)) (fun _ hk => hk.2) (.int .i64 t231)) (fun _ hk => hk.2) (.slice Ao30 t232.length co30)) (fun _ h_ => h_.1))) (Kd.R_base ho0) hb); have n1_ := Aside0.mk (Kd.R_elder' (by (with_reducible repeat (first | apply Kd.R_alloc | apply Kd.R_drewN | apply Kd.R_drew)); exact (Kd.R_mono (Kd.R_far (p := ⟨gb235, 1, none⟩) (Kd.R_far (p := ⟨gb235, 0, none⟩) (Kd.R_types HO228.out BK235.out (by decide)) (fun _ hk => hk.2) (.int .i64 t231)) (fun _ hk => hk.2) (.slice Ao30 t232.length co30)) (fun _ h_ => h_.1))) (Kd.R_base ho0) hb); have n2_ := Aside0.mk (Kd.R_elder' (by (with_reducible repeat (first | apply Kd.R_alloc | apply Kd.R_drewN | apply Kd.R_drew)); exact (Kd.R_mono (Kd.R_far (p := ⟨gb235, 1, none⟩) (Kd.R_far (p := ⟨gb235, 0, none⟩) (Kd.R_types HO234.out BK235.out (by decide)) (fun _ hk => hk.2) (.int .i64 t231)) (fun _ hk => hk.2) (.slice Ao30 t232.length co30)) (fun _ h_ => h_.1))) (Kd.R_base ho0) hb); have n3_ := Aside0.mk (Kd.R_lower (Kd.R_new' (Kd.R_new' (Kd.R_new' ho0 (Kd.R_lt (by (with_reducible repeat (first | apply Kd.R_alloc | apply Kd.R_drewN | apply Kd.R_drew)); exact (Kd.R_mono (Kd.R_far (p := ⟨gb235, 1, none⟩) (Kd.R_far (p := ⟨gb235, 0, none⟩) (Kd.R_types HO224.out BK235.out (by decide)) (fun _ hk => hk.2) (.int .i64 t231)) (fun _ hk => hk.2) (.slice Ao30 t232.length co30)) (fun _ h_ => h_.1))))) (Kd.R_lt (by (with_reducible repeat (first | apply Kd.R_alloc | apply Kd.R_drewN | apply Kd.R_drew)); exact (Kd.R_mono (Kd.R_far (p := ⟨gb235, 1, none⟩) (Kd.R_far (p := ⟨gb235, 0, none⟩) (Kd.R_types HO228.out BK235.out (by decide)) (fun _ hk => hk.2) (.int .i64 t231)) (fun _ hk => hk.2) (.slice Ao30 t232.length co30)) (fun _ h_ => h_.1))))) (Kd.R_lt (by (with_reducible repeat (first | apply Kd.R_alloc | apply Kd.R_drewN | apply Kd.R_drew)); exact (Kd.R_mono (Kd.R_far (p := ⟨gb235, 1, none⟩) (Kd.R_far (p := ⟨gb235, 0, none⟩) (Kd.R_types HO234.out BK235.out (by decide)) (fun _ hk => hk.2) (.int .i64 t231)) (fun _ hk => hk.2) (.slice Ao30 t232.length co30)) (fun _ h_ => h_.1))))) (below_size (hbg_))); have n4_ := Aside0.mk (blk_below (g := gb219) (o := .cells #[.int .i64 a0_0, .slice A0_1 l0_1.length c0_1] 24 (0, 0)) (bf2_ BK219 NB219_235) hb); have n5_ := Aside0.mk (blk_below (g := gb230) (o := .cells #[.int .i64 t225, .slice Ao23 t226.length co23] 29 (0, 0)) (bf2_ BK230 NB230_235) hb); have n6_ := Aside0.mk (blk_below (g := gb235) (o := .cells #[.int .i64 t231, .slice Ao30 t232.length co30] 29 (0, 0)) (by (with_reducible repeat (first | refine blk_drewN ?_ _ | refine blk_drew ?_ | refine blk_alloc ?_ _)); refine blk_put (cs := #[.int .i64 t231, .slice none 0 0]) ?_ 1 _ rfl; (with_reducible repeat (first | refine blk_drewN ?_ _ | refine blk_drew ?_ | refine blk_alloc ?_ _)); refine blk_put (cs := #[.int .i64 0, .slice none 0 0]) ?_ 0 _ rfl; (with_reducible repeat (first | refine blk_drewN ?_ _ | refine blk_drew ?_ | refine blk_alloc ?_ _)); exact BK235.out) hb); have n7_ := Aside0.mk (below_step (hbg_) hb); clear HO224; clear HO228; clear HO234; clear BK219; clear BK230; clear BK235; clear HB; have HO224 := n0_; have HO228 := n1_; have HO234 := n2_; have HO239 := n3_; have BK219 := n4_; have BK230 := n5_; have BK235 := n6_; have HB := n7_; clear n0_ n1_ n2_ n3_ n4_ n5_ n6_ n7_; (try clear hb); (try clear hb2); (try clear hk); (try clear hi); (try clear ho0)) | ((with_reducible refine gate_dst (N := 9) rfl ?_); refine box_event ?hg (N := 9) ?hd (cs := #[.int .i64 0, .slice none 0 0]) (t := 29) ?hr ?_; (case hd => rfl); (case hg => rfl); (case hr => first | (go_simp; done) | (go_simp; rfl)); intro gb241 hg w32 hbox hb; have n0_ := Aside0.mk (Kd.R_below (rk_ HO224.out) hb); have n1_ := Aside0.mk (Kd.R_below (rk_ HO228.out) hb); have n2_ := Aside0.mk (Kd.R_below (rk_ HO234.out) hb); have n3_ := Aside0.mk (Kd.R_below (rk_ HO239.out) hb); have n4_ := bb_ BK219 hb; have n5_ := bb_ BK230 hb; have n6_ := bb_ BK235 hb; have n7_ := Aside0.mk (below_step (hbg_) hb); have n8_ := Aside0.mk (hbox); have n9_ := Aside0.mk ((by rw [hg]; exact (below_size (hbg_)) : w.heap.size ≤ gb241)); have n10_ := Aside0.mk ((by rw [hg]; exact (below_size (hbg_)) : w.heap.size ≤ gb241)); have n11_ := Aside0.mk ((by rw [hg]; exact Nat.ne_of_lt (blk_lt (bk_ BK219.out)) : gb219 ≠ gb241)); have n12_ := Aside0.mk ((by rw [hg]; exact Nat.ne_of_gt (blk_lt (bk_ BK219.out)) : gb241 ≠ gb219)); have n13_ := Aside0.mk ((by rw [hg]; exact Nat.ne_of_lt (blk_lt (bk_ BK230.out)) : gb230 ≠ gb241)); have n14_ := Aside0.mk ((by rw [hg]; exact Nat.ne_of_gt (blk_lt (bk_ BK230.out)) : gb241 ≠ gb230)); have n15_ := Aside0.mk ((by rw [hg]; exact Nat.ne_of_lt (blk_lt (bk_ BK235.out)) : gb235 ≠ gb241)); have n16_ := Aside0.mk ((by rw [hg]; exact Nat.ne_of_gt (blk_lt (bk_ BK235.out)) : gb241 ≠ gb235)); clear HO224; clear HO228; clear HO234; clear HO239; clear BK219; clear BK230; clear BK235; clear HB; have HO224 := n0_; have HO228 := n1_; have HO234 := n2_; have HO239 := n3_; have BK219 := n4_; have BK230 := n5_; have BK235 := n6_; have HB := n7_; have BK241 := n8_; have GW241 := n9_; have GE241 := n10_; have NB219_241 := n11_; have NB241_219 := n12_; have NB230_241 := n13_; have NB241_230 := n14_; have NB235_241 := n15_; have NB241_235 := n16_; clear n0_ n1_ n2_ n3_ n4_ n5_ n6_ n7_ n8_ n9_ n10_ n11_ n12_ n13_ n14_ n15_ n16_; clear hb hbox hg; have hnb33 := NB241_219.out; have hnc33 := NB219_241.out; have hnb34 := NB241_230.out; have hnc34 := NB230_241.out; have hnb35 := NB241_235.out; have hnc35 := NB235_241.out; have hcz36_0 : w32.cell? ⟨gb241, 0, none⟩ = some (.int .i64 0) := (blk_cell BK241.out 0).trans rfl; have hcz36_1 : w32.cell? ⟨gb241, 1, none⟩ = some (.slice none 0 0) := (blk_cell BK241.out 1).trans rfl; have hfz36_0 := blk_frozen BK241.out 0; have hfz36_1 := blk_frozen BK241.out 1; obtain ⟨Ao37, co37, eo37⟩ := Kd.R_slice HO239.out; subst eo37))
    (try simp only [Act.put, List.setIfInBounds_toArray, List.set_cons_zero, List.set_cons_succ])
    go_cut [44] (fun v44 wc => ∃ (kq : Nat) (x44_11 : Bool), v44 = .bool x44_11 ∧ Aside0 (laws_FnExactDropClue.j0 kq a1 t229 t240 x44_11 a0_0 l0_1 t225 t226 t231 t232 t236 t237 = some r) ∧ Aside0 (kq ≤ k) ∧ Aside0 (Kd.R k39 39 wc w.heap.size (fun k_ => some k_ ≠ ((.slice Ao30 t232.length co30) : Value).ownBlock ∧ some k_ ≠ ((.slice Ao37 t237.length co37) : Value).ownBlock) (.slice Ao23 t226.length co23) t226) ∧ Aside0 (Kd.R k39 39 wc w.heap.size (fun k_ => some k_ ≠ ((.slice Ao23 t226.length co23) : Value).ownBlock ∧ some k_ ≠ ((.slice Ao37 t237.length co37) : Value).ownBlock) (.slice Ao30 t232.length co30) t232) ∧ Aside0 (Kd.R k39 39 wc w.heap.size (fun k_ => some k_ ≠ ((.slice Ao23 t226.length co23) : Value).ownBlock ∧ some k_ ≠ ((.slice Ao30 t232.length co30) : Value).ownBlock) (.slice Ao37 t237.length co37) t237) ∧ Aside0 (wc.heap[gb219]? = some (.cells #[.int .i64 a0_0, (.slice A0_1 l0_1.length c0_1)] 24 (0, 0))) ∧ Aside0 (wc.heap[gb230]? = some (.cells #[.int .i64 t225, (.slice Ao23 t226.length co23)] 29 (0, 0))) ∧ Aside0 (wc.heap[gb235]? = some (.cells #[.int .i64 t231, (.slice Ao30 t232.length co30)] 29 (0, 0))) ∧ Aside0 (wc.heap[gb241]? = some (.cells #[.int .i64 t236, (.slice Ao37 t237.length co37)] 29 (0, 0))) ∧ Aside0 (Below w.heap.size w wc))
    case first =>
      have H := HC12.out
      clear HC12
      replace H := Option.bind_eq_some_iff.mp H
      obtain ⟨t242, A380, H⟩ := H
      replace H : (if t242 = true then (laws_FnExactDropClue.j0 k a1 t229 t240 (t240 != t229) a0_0 l0_1 t225 t226 t231 t232 t236 t237) else (laws_FnExactDropClue.j0 k a1 t229 t240 true a0_0 l0_1 t225 t226 t231 t232 t236 t237)) = some r := H
      have A38 := Aside0.mk A380
      clear A380
      by_cases c39 : t242 = true
      · subst c39
        have H1 : (laws_FnExactDropClue.j0 k a1 t229 t240 (t240 != t229) a0_0 l0_1 t225 t226 t231 t232 t236 t237) = some r := by rw [if_pos rfl] at H; exact H
        clear H
        have H := H1
        clear H1
        have H' := Aside0.mk H
        clear H
        have hnb40 := NB241_219.out
        have hnc40 := NB219_241.out
        have hnb41 := NB241_230.out
        have hnc41 := NB230_241.out
        have hnb42 := NB241_235.out
        have hnc42 := NB235_241.out
        have hcz43_0 : w32.cell? ⟨gb241, 0, none⟩ = some (.int .i64 0) := (blk_cell BK241.out 0).trans rfl
        have hcz43_1 : w32.cell? ⟨gb241, 1, none⟩ = some (.slice none 0 0) := (blk_cell BK241.out 1).trans rfl
        have hfz43_0 := blk_frozen BK241.out 0
        have hfz43_1 := blk_frozen BK241.out 1
        have hnb44 := NB230_219.out
        have hnc44 := NB219_230.out
        have hnb45 := NB230_235.out
        have hnc45 := NB235_230.out
        have hcz46_0 : w32.cell? ⟨gb230, 0, none⟩ = some (.int .i64 t225) := (blk_cell BK230.out 0).trans rfl
        have hcz46_1 : w32.cell? ⟨gb230, 1, none⟩ = some (.slice Ao23 t226.length co23) := (blk_cell BK230.out 1).trans rfl
        have hfz46_0 := blk_frozen BK230.out 0
        have hfz46_1 := blk_frozen BK230.out 1
        go_wp2_with (first | ((with_reducible refine gate_callee (f := 19) rfl ?_); refine goesL_ (some 38) rfl rfl Try.func19 (by kernel_rfl) rfl #[.agg #[.int .i64 t236, .slice Ao37 t237.length co37], .agg #[.int .i64 t225, .slice Ao23 t226.length co23]] rfl ga_ ?_; (with_reducible refine (laws_eqPuzzle.calls k t236 _ _ t237 t225 _ _ t226 true _ ?side1 ?side2 ?side3 ?side4 A38.out).mono ?_); (case side1 => refine (Kd.R_reads' (e := 39) (base := w.heap.size) (ok := fun k_ => (((True ∧ some k_ ≠ (.slice Ao18 t222.length co18 : Value).ownBlock) ∧ some k_ ≠ (.slice Ao23 t226.length co23 : Value).ownBlock) ∧ some k_ ≠ (.slice Ao30 t232.length co30 : Value).ownBlock)) (n := t237.length) (c := co37) ?_).2.2; exact (by (with_reducible repeat (first | apply Kd.R_alloc | apply Kd.R_drewN | apply Kd.R_drew)); exact (Kd.R_mono (Kd.R_far (p := ⟨gb241, 1, none⟩) (Kd.R_far (p := ⟨gb241, 0, none⟩) (Kd.R_types HO239.out BK241.out (by decide)) (fun _ hk => hk.2) (.int .i64 t236)) (fun _ hk => hk.2) (.slice Ao37 t237.length co37)) (fun _ h_ => h_.1)))); (case side2 => exact (Kd.R_reads' HO239.out).2.1); (case side3 => refine (Kd.R_reads' (e := 39) (base := w.heap.size) (ok := fun k_ => (((True ∧ some k_ ≠ (.slice Ao18 t222.length co18 : Value).ownBlock) ∧ some k_ ≠ (.slice Ao30 t232.length co30 : Value).ownBlock) ∧ some k_ ≠ (.slice Ao37 t237.length co37 : Value).ownBlock)) (n := t226.length) (c := co23) ?_).2.2; exact (by (with_reducible repeat (first | apply Kd.R_alloc | apply Kd.R_drewN | apply Kd.R_drew)); exact (Kd.R_mono (Kd.R_far (p := ⟨gb241, 1, none⟩) (Kd.R_far (p := ⟨gb241, 0, none⟩) (Kd.R_types HO228.out BK241.out (by decide)) (fun _ hk => hk.2) (.int .i64 t236)) (fun _ hk => hk.2) (.slice Ao37 t237.length co37)) (fun _ h_ => h_.1)))); (case side4 => exact (Kd.R_reads' HO228.out).2.1); rintro e w47 ⟨rfl, hb⟩; refine ⟨_, rfl, ?_⟩; have n0_ := Aside0.mk (Kd.R_below (by (with_reducible repeat (first | apply Kd.R_alloc | apply Kd.R_drewN | apply Kd.R_drew)); exact (Kd.R_mono (Kd.R_far (p := ⟨gb241, 1, none⟩) (Kd.R_far (p := ⟨gb241, 0, none⟩) (Kd.R_types HO224.out BK241.out (by decide)) (fun _ hk => hk.2) (.int .i64 t236)) (fun _ hk => hk.2) (.slice Ao37 t237.length co37)) (fun _ h_ => h_.1))) hb); have n1_ := Aside0.mk (Kd.R_below (by (with_reducible repeat (first | apply Kd.R_alloc | apply Kd.R_drewN | apply Kd.R_drew)); exact (Kd.R_mono (Kd.R_far (p := ⟨gb241, 1, none⟩) (Kd.R_far (p := ⟨gb241, 0, none⟩) (Kd.R_types HO228.out BK241.out (by decide)) (fun _ hk => hk.2) (.int .i64 t236)) (fun _ hk => hk.2) (.slice Ao37 t237.length co37)) (fun _ h_ => h_.1))) hb); have n2_ := Aside0.mk (Kd.R_below (by (with_reducible repeat (first | apply Kd.R_alloc | apply Kd.R_drewN | apply Kd.R_drew)); exact (Kd.R_mono (Kd.R_far (p := ⟨gb241, 1, none⟩) (Kd.R_far (p := ⟨gb241, 0, none⟩) (Kd.R_types HO234.out BK241.out (by decide)) (fun _ hk => hk.2) (.int .i64 t236)) (fun _ hk => hk.2) (.slice Ao37 t237.length co37)) (fun _ h_ => h_.1))) hb); have n3_ := Aside0.mk (Kd.R_below (by (with_reducible repeat (first | apply Kd.R_alloc | apply Kd.R_drewN | apply Kd.R_drew)); exact (Kd.R_mono (Kd.R_far (p := ⟨gb241, 1, none⟩) (Kd.R_far (p := ⟨gb241, 0, none⟩) (Kd.R_types HO239.out BK241.out (by decide)) (fun _ hk => hk.2) (.int .i64 t236)) (fun _ hk => hk.2) (.slice Ao37 t237.length co37)) (fun _ h_ => h_.1))) hb); have n4_ := Aside0.mk (blk_below (g := gb219) (o := .cells #[.int .i64 a0_0, .slice A0_1 l0_1.length c0_1] 24 (0, 0)) (bf2_ BK219 NB219_241) hb); have n5_ := Aside0.mk (blk_below (g := gb230) (o := .cells #[.int .i64 t225, .slice Ao23 t226.length co23] 29 (0, 0)) (bf2_ BK230 NB230_241) hb); have n6_ := Aside0.mk (blk_below (g := gb235) (o := .cells #[.int .i64 t231, .slice Ao30 t232.length co30] 29 (0, 0)) (bf2_ BK235 NB235_241) hb); have n7_ := Aside0.mk (blk_below (g := gb241) (o := .cells #[.int .i64 t236, .slice Ao37 t237.length co37] 29 (0, 0)) (by (with_reducible repeat (first | refine blk_drewN ?_ _ | refine blk_drew ?_ | refine blk_alloc ?_ _)); refine blk_put (cs := #[.int .i64 t236, .slice none 0 0]) ?_ 1 _ rfl; (with_reducible repeat (first | refine blk_drewN ?_ _ | refine blk_drew ?_ | refine blk_alloc ?_ _)); refine blk_put (cs := #[.int .i64 0, .slice none 0 0]) ?_ 0 _ rfl; (with_reducible repeat (first | refine blk_drewN ?_ _ | refine blk_drew ?_ | refine blk_alloc ?_ _)); exact BK241.out) hb); have n8_ := Aside0.mk (below_step (hbg_) hb); clear HO224; clear HO228; clear HO234; clear HO239; clear BK219; clear BK230; clear BK235; clear BK241; clear HB; have HO224 := n0_; have HO228 := n1_; have HO234 := n2_; have HO239 := n3_; have BK219 := n4_; have BK230 := n5_; have BK235 := n6_; have BK241 := n7_; have HB := n8_; clear n0_ n1_ n2_ n3_ n4_ n5_ n6_ n7_ n8_; (try clear hb); (try clear hb2); (try clear hk); (try clear hi)))
        go_meet
        case rel => exact ⟨_, ((t240 != t229)), (by first | rfl | (simp; done) | (simp [*]; done)), H', ⟨by first | omega | exact Nat.le_refl _⟩, ⟨by (with_reducible repeat (first | apply Kd.R_alloc | apply Kd.R_drewN | apply Kd.R_drew)); exact Kd.R_mono HO228.out (fun _ hk => ⟨hk.1.2, hk.2⟩)⟩, ⟨by (with_reducible repeat (first | apply Kd.R_alloc | apply Kd.R_drewN | apply Kd.R_drew)); exact Kd.R_mono HO234.out (fun _ hk => ⟨hk.1.2, hk.2⟩)⟩, ⟨by (with_reducible repeat (first | apply Kd.R_alloc | apply Kd.R_drewN | apply Kd.R_drew)); exact Kd.R_mono HO239.out (fun _ hk => ⟨hk.1.2, hk.2⟩)⟩, ⟨bk_ BK219.out⟩, ⟨bk_ BK230.out⟩, ⟨bk_ BK235.out⟩, ⟨bk_ BK241.out⟩, ⟨hbg_⟩⟩
      · replace c39 := Bool.eq_false_iff.mpr c39
        subst c39
        have H1 : (laws_FnExactDropClue.j0 k a1 t229 t240 true a0_0 l0_1 t225 t226 t231 t232 t236 t237) = some r := by rw [if_neg (show ¬ (false = true) by decide)] at H; exact H
        clear H
        have H := H1
        clear H1
        have H' := Aside0.mk H
        clear H
        have hnb48 := NB241_219.out
        have hnc48 := NB219_241.out
        have hnb49 := NB241_230.out
        have hnc49 := NB230_241.out
        have hnb50 := NB241_235.out
        have hnc50 := NB235_241.out
        have hcz51_0 : w32.cell? ⟨gb241, 0, none⟩ = some (.int .i64 0) := (blk_cell BK241.out 0).trans rfl
        have hcz51_1 : w32.cell? ⟨gb241, 1, none⟩ = some (.slice none 0 0) := (blk_cell BK241.out 1).trans rfl
        have hfz51_0 := blk_frozen BK241.out 0
        have hfz51_1 := blk_frozen BK241.out 1
        have hnb52 := NB230_219.out
        have hnc52 := NB219_230.out
        have hnb53 := NB230_235.out
        have hnc53 := NB235_230.out
        have hcz54_0 : w32.cell? ⟨gb230, 0, none⟩ = some (.int .i64 t225) := (blk_cell BK230.out 0).trans rfl
        have hcz54_1 : w32.cell? ⟨gb230, 1, none⟩ = some (.slice Ao23 t226.length co23) := (blk_cell BK230.out 1).trans rfl
        have hfz54_0 := blk_frozen BK230.out 0
        have hfz54_1 := blk_frozen BK230.out 1
        go_wp2_with (first | ((with_reducible refine gate_callee (f := 19) rfl ?_); refine goesL_ (some 38) rfl rfl Try.func19 (by kernel_rfl) rfl #[.agg #[.int .i64 t236, .slice Ao37 t237.length co37], .agg #[.int .i64 t225, .slice Ao23 t226.length co23]] rfl ga_ ?_; (with_reducible refine (laws_eqPuzzle.calls k t236 _ _ t237 t225 _ _ t226 false _ ?side1 ?side2 ?side3 ?side4 A38.out).mono ?_); (case side1 => refine (Kd.R_reads' (e := 39) (base := w.heap.size) (ok := fun k_ => (((True ∧ some k_ ≠ (.slice Ao18 t222.length co18 : Value).ownBlock) ∧ some k_ ≠ (.slice Ao23 t226.length co23 : Value).ownBlock) ∧ some k_ ≠ (.slice Ao30 t232.length co30 : Value).ownBlock)) (n := t237.length) (c := co37) ?_).2.2; exact (by (with_reducible repeat (first | apply Kd.R_alloc | apply Kd.R_drewN | apply Kd.R_drew)); exact (Kd.R_mono (Kd.R_far (p := ⟨gb241, 1, none⟩) (Kd.R_far (p := ⟨gb241, 0, none⟩) (Kd.R_types HO239.out BK241.out (by decide)) (fun _ hk => hk.2) (.int .i64 t236)) (fun _ hk => hk.2) (.slice Ao37 t237.length co37)) (fun _ h_ => h_.1)))); (case side2 => exact (Kd.R_reads' HO239.out).2.1); (case side3 => refine (Kd.R_reads' (e := 39) (base := w.heap.size) (ok := fun k_ => (((True ∧ some k_ ≠ (.slice Ao18 t222.length co18 : Value).ownBlock) ∧ some k_ ≠ (.slice Ao30 t232.length co30 : Value).ownBlock) ∧ some k_ ≠ (.slice Ao37 t237.length co37 : Value).ownBlock)) (n := t226.length) (c := co23) ?_).2.2; exact (by (with_reducible repeat (first | apply Kd.R_alloc | apply Kd.R_drewN | apply Kd.R_drew)); exact (Kd.R_mono (Kd.R_far (p := ⟨gb241, 1, none⟩) (Kd.R_far (p := ⟨gb241, 0, none⟩) (Kd.R_types HO228.out BK241.out (by decide)) (fun _ hk => hk.2) (.int .i64 t236)) (fun _ hk => hk.2) (.slice Ao37 t237.length co37)) (fun _ h_ => h_.1)))); (case side4 => exact (Kd.R_reads' HO228.out).2.1); rintro e w55 ⟨rfl, hb⟩; refine ⟨_, rfl, ?_⟩; have n0_ := Aside0.mk (Kd.R_below (by (with_reducible repeat (first | apply Kd.R_alloc | apply Kd.R_drewN | apply Kd.R_drew)); exact (Kd.R_mono (Kd.R_far (p := ⟨gb241, 1, none⟩) (Kd.R_far (p := ⟨gb241, 0, none⟩) (Kd.R_types HO224.out BK241.out (by decide)) (fun _ hk => hk.2) (.int .i64 t236)) (fun _ hk => hk.2) (.slice Ao37 t237.length co37)) (fun _ h_ => h_.1))) hb); have n1_ := Aside0.mk (Kd.R_below (by (with_reducible repeat (first | apply Kd.R_alloc | apply Kd.R_drewN | apply Kd.R_drew)); exact (Kd.R_mono (Kd.R_far (p := ⟨gb241, 1, none⟩) (Kd.R_far (p := ⟨gb241, 0, none⟩) (Kd.R_types HO228.out BK241.out (by decide)) (fun _ hk => hk.2) (.int .i64 t236)) (fun _ hk => hk.2) (.slice Ao37 t237.length co37)) (fun _ h_ => h_.1))) hb); have n2_ := Aside0.mk (Kd.R_below (by (with_reducible repeat (first | apply Kd.R_alloc | apply Kd.R_drewN | apply Kd.R_drew)); exact (Kd.R_mono (Kd.R_far (p := ⟨gb241, 1, none⟩) (Kd.R_far (p := ⟨gb241, 0, none⟩) (Kd.R_types HO234.out BK241.out (by decide)) (fun _ hk => hk.2) (.int .i64 t236)) (fun _ hk => hk.2) (.slice Ao37 t237.length co37)) (fun _ h_ => h_.1))) hb); have n3_ := Aside0.mk (Kd.R_below (by (with_reducible repeat (first | apply Kd.R_alloc | apply Kd.R_drewN | apply Kd.R_drew)); exact (Kd.R_mono (Kd.R_far (p := ⟨gb241, 1, none⟩) (Kd.R_far (p := ⟨gb241, 0, none⟩) (Kd.R_types HO239.out BK241.out (by decide)) (fun _ hk => hk.2) (.int .i64 t236)) (fun _ hk => hk.2) (.slice Ao37 t237.length co37)) (fun _ h_ => h_.1))) hb); have n4_ := Aside0.mk (blk_below (g := gb219) (o := .cells #[.int .i64 a0_0, .slice A0_1 l0_1.length c0_1] 24 (0, 0)) (bf2_ BK219 NB219_241) hb); have n5_ := Aside0.mk (blk_below (g := gb230) (o := .cells #[.int .i64 t225, .slice Ao23 t226.length co23] 29 (0, 0)) (bf2_ BK230 NB230_241) hb); have n6_ := Aside0.mk (blk_below (g := gb235) (o := .cells #[.int .i64 t231, .slice Ao30 t232.length co30] 29 (0, 0)) (bf2_ BK235 NB235_241) hb); have n7_ := Aside0.mk (blk_below (g := gb241) (o := .cells #[.int .i64 t236, .slice Ao37 t237.length co37] 29 (0, 0)) (by (with_reducible repeat (first | refine blk_drewN ?_ _ | refine blk_drew ?_ | refine blk_alloc ?_ _)); refine blk_put (cs := #[.int .i64 t236, .slice none 0 0]) ?_ 1 _ rfl; (with_reducible repeat (first | refine blk_drewN ?_ _ | refine blk_drew ?_ | refine blk_alloc ?_ _)); refine blk_put (cs := #[.int .i64 0, .slice none 0 0]) ?_ 0 _ rfl; (with_reducible repeat (first | refine blk_drewN ?_ _ | refine blk_drew ?_ | refine blk_alloc ?_ _)); exact BK241.out) hb); have n8_ := Aside0.mk (below_step (hbg_) hb); clear HO224; clear HO228; clear HO234; clear HO239; clear BK219; clear BK230; clear BK235; clear BK241; clear HB; have HO224 := n0_; have HO228 := n1_; have HO234 := n2_; have HO239 := n3_; have BK219 := n4_; have BK230 := n5_; have BK235 := n6_; have BK241 := n7_; have HB := n8_; clear n0_ n1_ n2_ n3_ n4_ n5_ n6_ n7_ n8_; (try clear hb); (try clear hb2); (try clear hk); (try clear hi)))
        go_meet
        case rel => exact ⟨_, (true), (by first | rfl | (simp; done) | (simp [*]; done)), H', ⟨by first | omega | exact Nat.le_refl _⟩, ⟨by (with_reducible repeat (first | apply Kd.R_alloc | apply Kd.R_drewN | apply Kd.R_drew)); exact Kd.R_mono HO228.out (fun _ hk => ⟨hk.1.2, hk.2⟩)⟩, ⟨by (with_reducible repeat (first | apply Kd.R_alloc | apply Kd.R_drewN | apply Kd.R_drew)); exact Kd.R_mono HO234.out (fun _ hk => ⟨hk.1.2, hk.2⟩)⟩, ⟨by (with_reducible repeat (first | apply Kd.R_alloc | apply Kd.R_drewN | apply Kd.R_drew)); exact Kd.R_mono HO239.out (fun _ hk => ⟨hk.1.2, hk.2⟩)⟩, ⟨bk_ BK219.out⟩, ⟨bk_ BK230.out⟩, ⟨bk_ BK235.out⟩, ⟨bk_ BK241.out⟩, ⟨hbg_⟩⟩
    case rest =>
      clear HC12
      try clear c1
      try clear c2
      try clear p2
      try clear c3
      try clear c4
      try clear c4b0
      try clear c5
      try clear c7
      try clear c15
      try clear c17
      try clear c19
      try clear c21
      try clear c27
      try clear c28
      try clear c30
      try clear c31
      try clear c33
      try clear c34
      try clear c35
      try clear c39
      try clear c40
      try clear c41
      try clear c42
      try clear c44
      try clear c45
      try clear c48
      try clear c49
      try clear c50
      try clear c52
      try clear c53
      try clear hcz14_0
      try clear hcz14_1
      try clear hcz16_0
      try clear hcz16_1
      try clear hcz22_0
      try clear hcz22_1
      try clear hcz24_0
      try clear hcz24_1
      try clear hcz29_0
      try clear hcz29_1
      try clear hcz36_0
      try clear hcz36_1
      try clear hcz43_0
      try clear hcz43_1
      try clear hcz46_0
      try clear hcz46_1
      try clear hcz51_0
      try clear hcz51_1
      try clear hcz54_0
      try clear hcz54_1
      try clear hcz6_0
      try clear hcz6_1
      try clear hfz14_0
      try clear hfz14_1
      try clear hfz16_0
      try clear hfz16_1
      try clear hfz22_0
      try clear hfz22_1
      try clear hfz24_0
      try clear hfz24_1
      try clear hfz29_0
      try clear hfz29_1
      try clear hfz36_0
      try clear hfz36_1
      try clear hfz43_0
      try clear hfz43_1
      try clear hfz46_0
      try clear hfz46_1
      try clear hfz51_0
      try clear hfz51_1
      try clear hfz54_0
      try clear hfz54_1
      try clear hfz6_0
      try clear hfz6_1
      obtain ⟨kq, x44_11, rfl, HA, HJ11, HO_231001, HO_236001, HO_242001, BK219, BK230, BK235, BK241, HB⟩ := hcut
      cases kq with
      | zero => exact absurd HA.out (by simp [laws_FnExactDropClue.j0])
      | succ kj11 =>
        have H := HA.out
        clear HA
        simp only [laws_FnExactDropClue.j0] at H
        by_cases c56 : x44_11 = true
        · subst c56
          have H1 : (some false) = some r := by rw [if_pos rfl] at H; exact H
          clear H
          have H := H1
          clear H1
          exact absurd (Option.some.inj H) (by rw [hr_]; decide)
        · replace c56 := Bool.eq_false_iff.mpr c56
          subst c56
          have H1 : ((laws_toPuzzle.f kj11 a0_0 l0_1).bind fun bt243 => ((laws_eqPuzzle.f kj11 t231 t232 bt243.1 bt243.2).bind fun t247 => (if t247 = true then ((laws_markPuzzle.f kj11 t231 t232 1).bind fun bt248 => (if bt248.1 < 0 then (laws_FnExactDropClue.j1 kj11 a1 t229 true a0_0 l0_1 t225 t226 t236 t237) else ((laws_eqPuzzle.f kj11 t236 t237 t225 t226).bind fun t250 => (if t250 = true then (laws_FnExactDropClue.j1 kj11 a1 t229 (t240 != t229) a0_0 l0_1 t225 t226 t236 t237) else (laws_FnExactDropClue.j1 kj11 a1 t229 true a0_0 l0_1 t225 t226 t236 t237))))) else (some false)))) = some r := by rw [if_neg (show ¬ (false = true) by decide)] at H; exact H
          clear H
          have H := H1
          clear H1
          replace H := Option.bind_eq_some_iff.mp H
          obtain ⟨⟨t243, t244⟩, A570, H⟩ := H
          replace H : ((laws_eqPuzzle.f kj11 t231 t232 t243 t244).bind fun t247 => (if t247 = true then ((laws_markPuzzle.f kj11 t231 t232 1).bind fun bt248 => (if bt248.1 < 0 then (laws_FnExactDropClue.j1 kj11 a1 t229 true a0_0 l0_1 t225 t226 t236 t237) else ((laws_eqPuzzle.f kj11 t236 t237 t225 t226).bind fun t250 => (if t250 = true then (laws_FnExactDropClue.j1 kj11 a1 t229 (t240 != t229) a0_0 l0_1 t225 t226 t236 t237) else (laws_FnExactDropClue.j1 kj11 a1 t229 true a0_0 l0_1 t225 t226 t236 t237))))) else (some false))) = some r := H
          have A57 := Aside0.mk A570
          clear A570
          replace H := Option.bind_eq_some_iff.mp H
          obtain ⟨t247, A580, H⟩ := H
          replace H : (if t247 = true then ((laws_markPuzzle.f kj11 t231 t232 1).bind fun bt248 => (if bt248.1 < 0 then (laws_FnExactDropClue.j1 kj11 a1 t229 true a0_0 l0_1 t225 t226 t236 t237) else ((laws_eqPuzzle.f kj11 t236 t237 t225 t226).bind fun t250 => (if t250 = true then (laws_FnExactDropClue.j1 kj11 a1 t229 (t240 != t229) a0_0 l0_1 t225 t226 t236 t237) else (laws_FnExactDropClue.j1 kj11 a1 t229 true a0_0 l0_1 t225 t226 t236 t237))))) else (some false)) = some r := H
          have A58 := Aside0.mk A580
          clear A580
          by_cases c59 : t247 = true
          · subst c59
            have H1 : ((laws_markPuzzle.f kj11 t231 t232 1).bind fun bt248 => (if bt248.1 < 0 then (laws_FnExactDropClue.j1 kj11 a1 t229 true a0_0 l0_1 t225 t226 t236 t237) else ((laws_eqPuzzle.f kj11 t236 t237 t225 t226).bind fun t250 => (if t250 = true then (laws_FnExactDropClue.j1 kj11 a1 t229 (t240 != t229) a0_0 l0_1 t225 t226 t236 t237) else (laws_FnExactDropClue.j1 kj11 a1 t229 true a0_0 l0_1 t225 t226 t236 t237))))) = some r := by rw [if_pos rfl] at H; exact H
            clear H
            have H := H1
            clear H1
            replace H := Option.bind_eq_some_iff.mp H
            obtain ⟨⟨t248, t249⟩, A600, H⟩ := H
            replace H : (if t248 < 0 then (laws_FnExactDropClue.j1 kj11 a1 t229 true a0_0 l0_1 t225 t226 t236 t237) else ((laws_eqPuzzle.f kj11 t236 t237 t225 t226).bind fun t250 => (if t250 = true then (laws_FnExactDropClue.j1 kj11 a1 t229 (t240 != t229) a0_0 l0_1 t225 t226 t236 t237) else (laws_FnExactDropClue.j1 kj11 a1 t229 true a0_0 l0_1 t225 t226 t236 t237)))) = some r := H
            have A60 := Aside0.mk A600
            clear A600
            have HC61 := Aside0.mk H
            clear H
            try go_wp2
            have n0_ := Aside0.mk (Kd.R_drew HO_231001.out)
            have n1_ := Aside0.mk (Kd.R_drew HO_236001.out)
            have n2_ := Aside0.mk (Kd.R_drew HO_242001.out)
            have n3_ := Aside0.mk (blk_drew BK219.out)
            have n4_ := Aside0.mk (blk_drew BK230.out)
            have n5_ := Aside0.mk (blk_drew BK235.out)
            have n6_ := Aside0.mk (blk_drew BK241.out)
            have n7_ := Aside0.mk (below_drew1 HB.out)
            clear HO_231001
            clear HO_236001
            clear HO_242001
            clear BK219
            clear BK230
            clear BK235
            clear BK241
            clear HB
            have HO_231001 := n0_
            have HO_236001 := n1_
            have HO_242001 := n2_
            have BK219 := n3_
            have BK230 := n4_
            have BK235 := n5_
            have BK241 := n6_
            have HB := n7_
            clear n0_ n1_ n2_ n3_ n4_ n5_ n6_ n7_
            refine start_ (n := 5) (S := fun w' => w'.cell? ⟨gb235, 0, none⟩ = some (.int .i64 t231) ∧ w'.cell? ⟨gb235, 1, none⟩ = some (.slice Ao30 t232.length co30) ∧ w'.cell? ⟨gb219, 0, none⟩ = some (.int .i64 a0_0) ∧ w'.cell? ⟨gb219, 1, none⟩ = some (.slice A0_1 l0_1.length c0_1)) (ds := []) #[false, false, false, false, false] (by kernel_rfl) rfl rfl ⟨(blk_cell BK235.out 0).trans rfl, (blk_cell BK235.out 1).trans rfl, (blk_cell BK219.out 0).trans rfl, (blk_cell BK219.out 1).trans rfl⟩ (fun hHeld => ?_)
            generalize wc.drew = w62 at HO_231001 HO_236001 HO_242001 BK219 BK230 BK235 BK241 HB hHeld ⊢
            refine take_ (i := 0) (N := some 45) (v := ?_) (a' := ?_) #[true, false, false, false, false] rfl rfl (by kernel_rfl) (fun _ _ _ h => h) (Or.inl ⟨by rfl, ?_⟩) hHeld ?_ ?_
            rotate_left
            · rintro w' ⟨s0, s1, s2, s3⟩
              go_simp
              with_reducible rfl
            rotate_left
            · simp only [Act.put, sA, sB, sC, i64_w, i32_w]
              rfl
            refine take_ (i := 1) (N := some 46) (v := ?_) (a' := ?_) #[true, true, false, false, false] rfl rfl (by kernel_rfl) (fun _ _ _ h => h) (Or.inl ⟨by rfl, ?_⟩) hHeld ?_ ?_
            rotate_left
            · rintro w' ⟨s0, s1, s2, s3⟩
              go_simp
              with_reducible rfl
            rotate_left
            · simp only [Act.put, sA, sB, sC, i64_w, i32_w]
              rfl
            refine one_ (i := 2) (N := some 47) #[true, true, true, false, false] rfl rfl (by kernel_rfl) (by decide) (fun K hK => ?_)
            refine goes_ Try.func17 (by kernel_rfl) rfl #[.agg #[.int .i64 a0_0, .slice A0_1 l0_1.length c0_1]] (by rfl) rfl rfl ga_ ?_
            with_reducible refine (laws_toPuzzle.calls kj11 a0_0 _ _ l0_1 t243 t244 _ ?side1 ?side2 A57.out).mono ?_
            (case side1 => repeat (first | exact (Kd.C_below HR0_1.out HB.out) | (with_reducible refine Kd.C_alloc ?_ _) | (with_reducible refine Kd.C_drewN ?_ _) | (with_reducible refine Kd.C_drew ?_)))
            (case side2 => exact HC0_1.out)
            rintro e w63 ⟨v245, rfl, ho0, hb⟩
            refine ⟨_, rfl, ?_⟩
            have n0_ := Aside0.mk (Kd.R_elder' (rk_ HO_231001.out) (Kd.R_base ho0) hb)
            have n1_ := Aside0.mk (Kd.R_elder' (rk_ HO_236001.out) (Kd.R_base ho0) hb)
            have n2_ := Aside0.mk (Kd.R_elder' (rk_ HO_242001.out) (Kd.R_base ho0) hb)
            have n3_ := Aside0.mk (Kd.R_lower (Kd.R_new' (Kd.R_new' (Kd.R_new' ho0 (Kd.R_lt (rk_ HO_231001.out))) (Kd.R_lt (rk_ HO_236001.out))) (Kd.R_lt (rk_ HO_242001.out))) (below_size (hbg_)))
            have n4_ := bb_ BK219 hb
            have n5_ := bb_ BK230 hb
            have n6_ := bb_ BK235 hb
            have n7_ := bb_ BK241 hb
            have n8_ := Aside0.mk (below_step (hbg_) hb)
            clear HO_231001
            clear HO_236001
            clear HO_242001
            clear BK219
            clear BK230
            clear BK235
            clear BK241
            clear HB
            have HO_231001 := n0_
            have HO_236001 := n1_
            have HO_242001 := n2_
            have HO246 := n3_
            have BK219 := n4_
            have BK230 := n5_
            have BK235 := n6_
            have BK241 := n7_
            have HB := n8_
            clear n0_ n1_ n2_ n3_ n4_ n5_ n6_ n7_ n8_
            (try clear hb)
            (try clear hb2)
            (try clear hk)
            (try clear hi)
            (try clear ho0)
            obtain ⟨Ao64, co64, eo64⟩ := Kd.R_slice HO246.out
            (first | subst eo64 | (injection eo64 with f1_ f2_ f3_; have f4_ := f1_.symm; have f5_ := f3_.symm; clear f1_ f2_ f3_; subst f4_; subst f5_))
            refine hK.out _ _ ⟨(blk_cell BK235.out 0).trans rfl, (blk_cell BK235.out 1).trans rfl, (blk_cell BK219.out 0).trans rfl, (blk_cell BK219.out 1).trans rfl⟩ (fun hHeld => ?_)
            clear hK K
            refine norm_ (a' := ?_) ?_ ?_
            rotate_left
            · show Act.put _ (some 47) _ = _
              simp only [Act.put, sA, sB, sC, i64_w, i32_w]
              rfl
            refine one_ (i := 3) (N := some 48) #[true, true, true, true, false] rfl rfl (by kernel_rfl) (by decide) (fun K hK => ?_)
            refine goes_ Try.func19 (by kernel_rfl) rfl #[.agg #[.int .i64 t231, .slice Ao30 t232.length co30], .agg #[.int .i64 t243, .slice Ao64 t244.length co64]] (by rfl) rfl rfl ga_ ?_
            with_reducible refine (laws_eqPuzzle.calls kj11 t231 _ _ t232 t243 _ _ t244 true _ ?side1 ?side2 ?side3 ?side4 A58.out).mono ?_
            (case side1 => repeat (first | exact (Kd.R_reads' HO_236001.out).2.2 | (with_reducible refine Kd.C_alloc ?_ _) | (with_reducible refine Kd.C_drewN ?_ _) | (with_reducible refine Kd.C_drew ?_)))
            (case side2 => exact (Kd.R_reads' HO_236001.out).2.1)
            (case side3 => repeat (first | exact (Kd.R_reads' HO246.out).2.2 | (with_reducible refine Kd.C_alloc ?_ _) | (with_reducible refine Kd.C_drewN ?_ _) | (with_reducible refine Kd.C_drew ?_)))
            (case side4 => exact (Kd.R_reads' HO246.out).2.1)
            rintro e w65 ⟨rfl, hb⟩
            refine ⟨_, rfl, ?_⟩
            have n0_ := Aside0.mk (Kd.R_below (rk_ HO_231001.out) hb)
            have n1_ := Aside0.mk (Kd.R_below (rk_ HO_236001.out) hb)
            have n2_ := Aside0.mk (Kd.R_below (rk_ HO_242001.out) hb)
            have n3_ := Aside0.mk (Kd.R_below (rk_ HO246.out) hb)
            have n4_ := bb_ BK219 hb
            have n5_ := bb_ BK230 hb
            have n6_ := bb_ BK235 hb
            have n7_ := bb_ BK241 hb
            have n8_ := Aside0.mk (below_step (hbg_) hb)
            clear HO_231001
            clear HO_236001
            clear HO_242001
            clear HO246
            clear BK219
            clear BK230
            clear BK235
            clear BK241
            clear HB
            have HO_231001 := n0_
            have HO_236001 := n1_
            have HO_242001 := n2_
            have HO246 := n3_
            have BK219 := n4_
            have BK230 := n5_
            have BK235 := n6_
            have BK241 := n7_
            have HB := n8_
            clear n0_ n1_ n2_ n3_ n4_ n5_ n6_ n7_ n8_
            (try clear hb)
            (try clear hb2)
            (try clear hk)
            (try clear hi)
            refine hK.out _ _ ⟨(blk_cell BK235.out 0).trans rfl, (blk_cell BK235.out 1).trans rfl, (blk_cell BK219.out 0).trans rfl, (blk_cell BK219.out 1).trans rfl⟩ (fun hHeld => ?_)
            clear hK K
            refine norm_ (a' := ?_) ?_ ?_
            rotate_left
            · show Act.put _ (some 48) _ = _
              simp only [Act.put, sA, sB, sC, i64_w, i32_w]
              rfl
            refine pure_ (i := 4) (N := some 49) (v := ?_) (a' := ?_) #[true, true, true, true, true] rfl rfl (by kernel_rfl) (fun _ _ _ h => h) (Or.inl ⟨by rfl, ?_⟩) ?_ ?_
            rotate_left
            · intro w'
              go_simp
              with_reducible rfl
            rotate_left
            · simp only [Act.put, sA, sB, sC, i64_w, i32_w]
              rfl
            refine done_ (by kernel_rfl) ?_
            have hnb66 := NB235_219.out
            have hnc66 := NB219_235.out
            have hnb67 := NB235_230.out
            have hnc67 := NB230_235.out
            have hnb68 := NB235_241.out
            have hnc68 := NB241_235.out
            have hcz69_0 : w65.cell? ⟨gb235, 0, none⟩ = some (.int .i64 t231) := (blk_cell BK235.out 0).trans rfl
            have hcz69_1 : w65.cell? ⟨gb235, 1, none⟩ = some (.slice Ao30 t232.length co30) := (blk_cell BK235.out 1).trans rfl
            have hfz69_0 := blk_frozen BK235.out 0
            have hfz69_1 := blk_frozen BK235.out 1
            go_upto_region 14 with (first | ((with_reducible refine gate_callee (f := 26) rfl ?_); refine goesL_ (some 52) rfl rfl Try.func26 (by kernel_rfl) rfl #[.agg #[.int .i64 t231, .slice Ao30 t232.length co30], .int .i64 1] rfl ga_ ?_; (with_reducible refine (laws_markPuzzle.calls kj11 t231 (fun k_ => some k_ = (.slice Ao30 t232.length co30 : Value).ownBlock) (.slice Ao30 t232.length co30) t232 1 t248 t249 w _ ?side1 ?side2 A60.out).mono ?_); (case side1 => repeat (first | (with_reducible first | exact HB.out | apply below_alloc | apply pw_below_drewN | apply below_drew1 | refine below_set ?_ GE219.out | refine below_set ?_ GE230.out | refine below_set ?_ GE235.out | refine below_set ?_ GE241.out) | exact HB.out)); (case side2 => exact Kd.R_tight rfl HO_236001.out); rintro e w70 ⟨rfl, hy0, hb, hkp⟩; refine ⟨_, rfl, ?_⟩; have n0_ := Aside0.mk (Kd.R_mono (ok' := fun k_ => some k_ ≠ (.slice Ao30 t232.length co30 : Value).ownBlock ∧ some k_ ≠ (.slice Ao37 t237.length co37 : Value).ownBlock ∧ some k_ ≠ (.slice Ao64 t244.length co64 : Value).ownBlock) (Kd.R_keptB (HO_231001.out) hkp (fun k_ hk_ hs_ => (hk_.1.1) hs_)) (fun k_ hk_ => ⟨hk_.1.1.1, hk_.1.1.2, hk_.1.2⟩)); have n1_ := Aside0.mk (Kd.R_reok rfl hy0 (fun k_ e_ => HO_236001.out.1 k_ e_)); have n2_ := Aside0.mk (Kd.R_mono (ok' := fun k_ => some k_ ≠ (.slice Ao23 t226.length co23 : Value).ownBlock ∧ some k_ ≠ (.slice Ao30 t232.length co30 : Value).ownBlock ∧ some k_ ≠ (.slice Ao64 t244.length co64 : Value).ownBlock) (Kd.R_keptB (HO_242001.out) hkp (fun k_ hk_ hs_ => (hk_.1.2) hs_)) (fun k_ hk_ => ⟨hk_.1.1.1, hk_.1.1.2, hk_.1.2⟩)); have n3_ := Aside0.mk (blk_kept (bk_ BK219.out) hkp (fun hs_ => (fun e_ => (Kd.R_ne HO_236001.out BK219.out (by decide)) e_) hs_)); have n4_ := Aside0.mk (blk_kept (bk_ BK230.out) hkp (fun hs_ => (fun e_ => (Kd.R_ne HO_236001.out BK230.out (by decide)) e_) hs_)); have n5_ := Aside0.mk (blk_kept (bk_ BK235.out) hkp (fun hs_ => (fun e_ => (Kd.R_ne HO_236001.out BK235.out (by decide)) e_) hs_)); have n6_ := Aside0.mk (blk_kept (bk_ BK241.out) hkp (fun hs_ => (fun e_ => (Kd.R_ne HO_236001.out BK241.out (by decide)) e_) hs_)); have n7_ := Aside0.mk (Kd.R_mono (ok' := fun k_ => some k_ ≠ (.slice Ao23 t226.length co23 : Value).ownBlock ∧ some k_ ≠ (.slice Ao30 t232.length co30 : Value).ownBlock ∧ some k_ ≠ (.slice Ao37 t237.length co37 : Value).ownBlock) (Kd.R_keptB (HO246.out) hkp (fun k_ hk_ hs_ => (hk_.1.2) hs_)) (fun k_ hk_ => ⟨hk_.1.1.1.2, hk_.1.1.2, hk_.1.2⟩)); have n8_ := Aside0.mk (hb); clear HO_231001; clear HO_236001; clear HO_242001; clear BK219; clear BK230; clear BK235; clear BK241; clear HO246; clear HB; have HO_231001 := n0_; have HO_236001 := n1_; have HO_242001 := n2_; have BK219 := n3_; have BK230 := n4_; have BK235 := n5_; have BK241 := n6_; have HO246 := n7_; have HB := n8_; clear n0_ n1_ n2_ n3_ n4_ n5_ n6_ n7_ n8_; (try clear hb); (try clear hkp); (try clear hy0)))
            (try simp only [Act.put, List.setIfInBounds_toArray, List.set_cons_zero, List.set_cons_succ])
            go_cut [65] (fun v65 wc => ∃ (kq : Nat) (x65_60 : Bool), v65 = .bool x65_60 ∧ Aside0 (laws_FnExactDropClue.j1 kq a1 t229 x65_60 a0_0 l0_1 t225 t226 t236 t237 = some r) ∧ Aside0 (kq ≤ kj11) ∧ Aside0 (Kd.R k39 39 wc w.heap.size (fun k_ => some k_ ≠ ((.slice Ao30 t232.length co30) : Value).ownBlock ∧ some k_ ≠ ((.slice Ao37 t237.length co37) : Value).ownBlock) (.slice Ao23 t226.length co23) t226) ∧ Aside0 (Kd.R k39 39 wc w.heap.size (fun k_ => some k_ ≠ ((.slice Ao23 t226.length co23) : Value).ownBlock ∧ some k_ ≠ ((.slice Ao37 t237.length co37) : Value).ownBlock) (.slice Ao30 t232.length co30) t249) ∧ Aside0 (Kd.R k39 39 wc w.heap.size (fun k_ => some k_ ≠ ((.slice Ao23 t226.length co23) : Value).ownBlock ∧ some k_ ≠ ((.slice Ao30 t232.length co30) : Value).ownBlock) (.slice Ao37 t237.length co37) t237) ∧ Aside0 (wc.heap[gb219]? = some (.cells #[.int .i64 a0_0, (.slice A0_1 l0_1.length c0_1)] 24 (0, 0))) ∧ Aside0 (wc.heap[gb230]? = some (.cells #[.int .i64 t225, (.slice Ao23 t226.length co23)] 29 (0, 0))) ∧ Aside0 (wc.heap[gb235]? = some (.cells #[.int .i64 t231, (.slice Ao30 t232.length co30)] 29 (0, 0))) ∧ Aside0 (wc.heap[gb241]? = some (.cells #[.int .i64 t236, (.slice Ao37 t237.length co37)] 29 (0, 0))) ∧ Aside0 (Below w.heap.size w wc))
            case first =>
              have H := HC61.out
              clear HC61
              by_cases c71 : t248 < 0
              · rw [if_pos c71] at H
                have c71b0 : decide (t248 < 0) = true := decide_eq_true c71
                clear c71
                (first | rw [c71b0] | (simp only [i64_w, i32_w]; rw [c71b0]) | skip)
                have H' := Aside0.mk H
                clear H
                go_wp2
                go_meet
                case rel => exact ⟨_, (true), (by first | rfl | (simp; done) | (simp [*]; done)), H', ⟨by have := HJ11.out; first | omega | exact Nat.le_refl _⟩, ⟨by (with_reducible repeat (first | apply Kd.R_alloc | apply Kd.R_drewN | apply Kd.R_drew)); exact Kd.R_mono HO_231001.out (fun _ hk => ⟨hk.1, hk.2.1⟩)⟩, ⟨by (with_reducible repeat (first | apply Kd.R_alloc | apply Kd.R_drewN | apply Kd.R_drew)); exact Kd.R_mono HO_236001.out (fun _ hk => ⟨hk.1.1, hk.1.2⟩)⟩, ⟨by (with_reducible repeat (first | apply Kd.R_alloc | apply Kd.R_drewN | apply Kd.R_drew)); exact Kd.R_mono HO_242001.out (fun _ hk => ⟨hk.1, hk.2.1⟩)⟩, ⟨bk_ BK219.out⟩, ⟨bk_ BK230.out⟩, ⟨bk_ BK235.out⟩, ⟨bk_ BK241.out⟩, ⟨hbg_⟩⟩
              · rw [if_neg c71] at H
                have c71b0 : decide (t248 < 0) = false := decide_eq_false c71
                clear c71
                (first | rw [c71b0] | (simp only [i64_w, i32_w]; rw [c71b0]) | skip)
                replace H := Option.bind_eq_some_iff.mp H
                obtain ⟨t250, A720, H⟩ := H
                replace H : (if t250 = true then (laws_FnExactDropClue.j1 kj11 a1 t229 (t240 != t229) a0_0 l0_1 t225 t226 t236 t237) else (laws_FnExactDropClue.j1 kj11 a1 t229 true a0_0 l0_1 t225 t226 t236 t237)) = some r := H
                have A72 := Aside0.mk A720
                clear A720
                by_cases c73 : t250 = true
                · subst c73
                  have H1 : (laws_FnExactDropClue.j1 kj11 a1 t229 (t240 != t229) a0_0 l0_1 t225 t226 t236 t237) = some r := by rw [if_pos rfl] at H; exact H
                  clear H
                  have H := H1
                  clear H1
                  have H' := Aside0.mk H
                  clear H
                  have hnb74 := NB241_219.out
                  have hnc74 := NB219_241.out
                  have hnb75 := NB241_230.out
                  have hnc75 := NB230_241.out
                  have hnb76 := NB241_235.out
                  have hnc76 := NB235_241.out
                  have hcz77_0 : w70.cell? ⟨gb241, 0, none⟩ = some (.int .i64 t236) := (blk_cell BK241.out 0).trans rfl
                  have hcz77_1 : w70.cell? ⟨gb241, 1, none⟩ = some (.slice Ao37 t237.length co37) := (blk_cell BK241.out 1).trans rfl
                  have hfz77_0 := blk_frozen BK241.out 0
                  have hfz77_1 := blk_frozen BK241.out 1
                  have hnb78 := NB230_219.out
                  have hnc78 := NB219_230.out
                  have hnb79 := NB230_235.out
                  have hnc79 := NB235_230.out
                  have hcz80_0 : w70.cell? ⟨gb230, 0, none⟩ = some (.int .i64 t225) := (blk_cell BK230.out 0).trans rfl
                  have hcz80_1 : w70.cell? ⟨gb230, 1, none⟩ = some (.slice Ao23 t226.length co23) := (blk_cell BK230.out 1).trans rfl
                  have hfz80_0 := blk_frozen BK230.out 0
                  have hfz80_1 := blk_frozen BK230.out 1
                  go_wp2_with (first | (go_at_call 19; (with_reducible refine (laws_eqPuzzle.calls kj11 t236 _ _ t237 t225 _ _ t226 true _ ?side1 ?side2 ?side3 ?side4 A72.out).mono ?_); (case side1 => repeat (first | exact (Kd.R_reads' HO_242001.out).2.2 | (with_reducible refine Kd.C_alloc ?_ _) | (with_reducible refine Kd.C_drewN ?_ _) | (with_reducible refine Kd.C_drew ?_))); (case side2 => exact (Kd.R_reads' HO_242001.out).2.1); (case side3 => repeat (first | exact (Kd.R_reads' HO_231001.out).2.2 | (with_reducible refine Kd.C_alloc ?_ _) | (with_reducible refine Kd.C_drewN ?_ _) | (with_reducible refine Kd.C_drew ?_))); (case side4 => exact (Kd.R_reads' HO_231001.out).2.1); rintro e w81 ⟨rfl, hb⟩; have n0_ := Aside0.mk (Kd.R_below (rk_ HO_231001.out) hb); have n1_ := Aside0.mk (Kd.R_below (rk_ HO_236001.out) hb); have n2_ := Aside0.mk (Kd.R_below (rk_ HO_242001.out) hb); have n3_ := Aside0.mk (Kd.R_below (rk_ HO246.out) hb); have n4_ := bb_ BK219 hb; have n5_ := bb_ BK230 hb; have n6_ := bb_ BK235 hb; have n7_ := bb_ BK241 hb; have n8_ := Aside0.mk (below_step (hbg_) hb); clear HO_231001; clear HO_236001; clear HO_242001; clear HO246; clear BK219; clear BK230; clear BK235; clear BK241; clear HB; have HO_231001 := n0_; have HO_236001 := n1_; have HO_242001 := n2_; have HO246 := n3_; have BK219 := n4_; have BK230 := n5_; have BK235 := n6_; have BK241 := n7_; have HB := n8_; clear n0_ n1_ n2_ n3_ n4_ n5_ n6_ n7_ n8_; (try clear hb); (try clear hb2); (try clear hk); (try clear hi)))
                  go_meet
                  case rel => exact ⟨_, ((t240 != t229)), (by first | rfl | (simp; done) | (simp [*]; done)), H', ⟨by have := HJ11.out; first | omega | exact Nat.le_refl _⟩, ⟨by (with_reducible repeat (first | apply Kd.R_alloc | apply Kd.R_drewN | apply Kd.R_drew)); exact Kd.R_mono HO_231001.out (fun _ hk => ⟨hk.1, hk.2.1⟩)⟩, ⟨by (with_reducible repeat (first | apply Kd.R_alloc | apply Kd.R_drewN | apply Kd.R_drew)); exact Kd.R_mono HO_236001.out (fun _ hk => ⟨hk.1.1, hk.1.2⟩)⟩, ⟨by (with_reducible repeat (first | apply Kd.R_alloc | apply Kd.R_drewN | apply Kd.R_drew)); exact Kd.R_mono HO_242001.out (fun _ hk => ⟨hk.1, hk.2.1⟩)⟩, ⟨bk_ BK219.out⟩, ⟨bk_ BK230.out⟩, ⟨bk_ BK235.out⟩, ⟨bk_ BK241.out⟩, ⟨hbg_⟩⟩
                · replace c73 := Bool.eq_false_iff.mpr c73
                  subst c73
                  have H1 : (laws_FnExactDropClue.j1 kj11 a1 t229 true a0_0 l0_1 t225 t226 t236 t237) = some r := by rw [if_neg (show ¬ (false = true) by decide)] at H; exact H
                  clear H
                  have H := H1
                  clear H1
                  have H' := Aside0.mk H
                  clear H
                  have hnb82 := NB241_219.out
                  have hnc82 := NB219_241.out
                  have hnb83 := NB241_230.out
                  have hnc83 := NB230_241.out
                  have hnb84 := NB241_235.out
                  have hnc84 := NB235_241.out
                  have hcz85_0 : w70.cell? ⟨gb241, 0, none⟩ = some (.int .i64 t236) := (blk_cell BK241.out 0).trans rfl
                  have hcz85_1 : w70.cell? ⟨gb241, 1, none⟩ = some (.slice Ao37 t237.length co37) := (blk_cell BK241.out 1).trans rfl
                  have hfz85_0 := blk_frozen BK241.out 0
                  have hfz85_1 := blk_frozen BK241.out 1
                  have hnb86 := NB230_219.out
                  have hnc86 := NB219_230.out
                  have hnb87 := NB230_235.out
                  have hnc87 := NB235_230.out
                  have hcz88_0 : w70.cell? ⟨gb230, 0, none⟩ = some (.int .i64 t225) := (blk_cell BK230.out 0).trans rfl
                  have hcz88_1 : w70.cell? ⟨gb230, 1, none⟩ = some (.slice Ao23 t226.length co23) := (blk_cell BK230.out 1).trans rfl
                  have hfz88_0 := blk_frozen BK230.out 0
                  have hfz88_1 := blk_frozen BK230.out 1
                  go_wp2_with (first | (go_at_call 19; (with_reducible refine (laws_eqPuzzle.calls kj11 t236 _ _ t237 t225 _ _ t226 false _ ?side1 ?side2 ?side3 ?side4 A72.out).mono ?_); (case side1 => repeat (first | exact (Kd.R_reads' HO_242001.out).2.2 | (with_reducible refine Kd.C_alloc ?_ _) | (with_reducible refine Kd.C_drewN ?_ _) | (with_reducible refine Kd.C_drew ?_))); (case side2 => exact (Kd.R_reads' HO_242001.out).2.1); (case side3 => repeat (first | exact (Kd.R_reads' HO_231001.out).2.2 | (with_reducible refine Kd.C_alloc ?_ _) | (with_reducible refine Kd.C_drewN ?_ _) | (with_reducible refine Kd.C_drew ?_))); (case side4 => exact (Kd.R_reads' HO_231001.out).2.1); rintro e w89 ⟨rfl, hb⟩; have n0_ := Aside0.mk (Kd.R_below (rk_ HO_231001.out) hb); have n1_ := Aside0.mk (Kd.R_below (rk_ HO_236001.out) hb); have n2_ := Aside0.mk (Kd.R_below (rk_ HO_242001.out) hb); have n3_ := Aside0.mk (Kd.R_below (rk_ HO246.out) hb); have n4_ := bb_ BK219 hb; have n5_ := bb_ BK230 hb; have n6_ := bb_ BK235 hb; have n7_ := bb_ BK241 hb; have n8_ := Aside0.mk (below_step (hbg_) hb); clear HO_231001; clear HO_236001; clear HO_242001; clear HO246; clear BK219; clear BK230; clear BK235; clear BK241; clear HB; have HO_231001 := n0_; have HO_236001 := n1_; have HO_242001 := n2_; have HO246 := n3_; have BK219 := n4_; have BK230 := n5_; have BK235 := n6_; have BK241 := n7_; have HB := n8_; clear n0_ n1_ n2_ n3_ n4_ n5_ n6_ n7_ n8_; (try clear hb); (try clear hb2); (try clear hk); (try clear hi)))
                  go_meet
                  case rel => exact ⟨_, (true), (by first | rfl | (simp; done) | (simp [*]; done)), H', ⟨by have := HJ11.out; first | omega | exact Nat.le_refl _⟩, ⟨by (with_reducible repeat (first | apply Kd.R_alloc | apply Kd.R_drewN | apply Kd.R_drew)); exact Kd.R_mono HO_231001.out (fun _ hk => ⟨hk.1, hk.2.1⟩)⟩, ⟨by (with_reducible repeat (first | apply Kd.R_alloc | apply Kd.R_drewN | apply Kd.R_drew)); exact Kd.R_mono HO_236001.out (fun _ hk => ⟨hk.1.1, hk.1.2⟩)⟩, ⟨by (with_reducible repeat (first | apply Kd.R_alloc | apply Kd.R_drewN | apply Kd.R_drew)); exact Kd.R_mono HO_242001.out (fun _ hk => ⟨hk.1, hk.2.1⟩)⟩, ⟨bk_ BK219.out⟩, ⟨bk_ BK230.out⟩, ⟨bk_ BK235.out⟩, ⟨bk_ BK241.out⟩, ⟨hbg_⟩⟩
            case rest =>
              clear HC61
              try clear c1
              try clear c2
              try clear p2
              try clear c3
              try clear c4
              try clear c4b0
              try clear c5
              try clear c6
              try clear c7
              try clear c8
              try clear c15
              try clear c17
              try clear c19
              try clear c21
              try clear c26
              try clear c27
              try clear c28
              try clear c30
              try clear c31
              try clear c33
              try clear c34
              try clear c35
              try clear c39
              try clear c40
              try clear c41
              try clear c42
              try clear c44
              try clear c45
              try clear c48
              try clear c49
              try clear c50
              try clear c52
              try clear c53
              try clear c56
              try clear c59
              try clear c66
              try clear c67
              try clear c68
              try clear c71
              try clear c71b0
              try clear c73
              try clear c74
              try clear c75
              try clear c76
              try clear c78
              try clear c79
              try clear c82
              try clear c83
              try clear c84
              try clear c86
              try clear c87
              try clear hcz14_0
              try clear hcz14_1
              try clear hcz16_0
              try clear hcz16_1
              try clear hcz22_0
              try clear hcz22_1
              try clear hcz24_0
              try clear hcz24_1
              try clear hcz29_0
              try clear hcz29_1
              try clear hcz36_0
              try clear hcz36_1
              try clear hcz43_0
              try clear hcz43_1
              try clear hcz46_0
              try clear hcz46_1
              try clear hcz51_0
              try clear hcz51_1
              try clear hcz54_0
              try clear hcz54_1
              try clear hcz69_0
              try clear hcz69_1
              try clear hcz6_0
              try clear hcz6_1
              try clear hcz77_0
              try clear hcz77_1
              try clear hcz80_0
              try clear hcz80_1
              try clear hcz85_0
              try clear hcz85_1
              try clear hcz88_0
              try clear hcz88_1
              try clear hfz14_0
              try clear hfz14_1
              try clear hfz16_0
              try clear hfz16_1
              try clear hfz22_0
              try clear hfz22_1
              try clear hfz24_0
              try clear hfz24_1
              try clear hfz29_0
              try clear hfz29_1
              try clear hfz36_0
              try clear hfz36_1
              try clear hfz43_0
              try clear hfz43_1
              try clear hfz46_0
              try clear hfz46_1
              try clear hfz51_0
              try clear hfz51_1
              try clear hfz54_0
              try clear hfz54_1
              try clear hfz69_0
              try clear hfz69_1
              try clear hfz6_0
              try clear hfz6_1
              try clear hfz77_0
              try clear hfz77_1
              try clear hfz80_0
              try clear hfz80_1
              try clear hfz85_0
              try clear hfz85_1
              try clear hfz88_0
              try clear hfz88_1
              try clear p2
              obtain ⟨kq, x65_60, rfl, HA, HJ60, HO_231001, HO_236001, HO_242001, BK219, BK230, BK235, BK241, HB⟩ := hcut
              have hl236001_60 := (Kd.R_reads' HO_236001.out).1
              rw [hl236001_60] at HO_236001
              (try simp only [hl236001_60])
              (try simp only [hl236001_60] at BK219)
              (try simp only [hl236001_60] at BK230)
              (try simp only [hl236001_60] at BK235)
              (try simp only [hl236001_60] at BK241)
              (try simp only [hl236001_60] at HO_231001)
              (try simp only [hl236001_60] at HO_242001)
              cases kq with
              | zero => exact absurd HA.out (by simp [laws_FnExactDropClue.j1])
              | succ kj60 =>
                have H := HA.out
                clear HA
                simp only [laws_FnExactDropClue.j1] at H
                by_cases c90 : x65_60 = true
                · subst c90
                  have H1 : (some false) = some r := by rw [if_pos rfl] at H; exact H
                  clear H
                  have H := H1
                  clear H1
                  exact absurd (Option.some.inj H) (by rw [hr_]; decide)
                · replace c90 := Bool.eq_false_iff.mpr c90
                  subst c90
                  have H1 : ((laws_markPuzzle.f kj60 t236 t237 1).bind fun bt251 => ((laws_heldPuzzle.f kj60 t236 bt251.2 1).bind fun t253 => (if t253 < 0 then (some false) else (if t253 = bt251.1 then ((laws_toPuzzle.f kj60 a0_0 l0_1).bind fun bt254 => ((impl_DropClue.f kj60 bt254.1 bt254.2 a1).bind fun bt258 => ((laws_eqPuzzle.f kj60 bt258.1 bt258.2.1 t225 t226).bind fun t264 => (if t264 = true then (laws_FnExactDropClue.j2 kj60 bt251.1 (bt258.2.2 != t229) t236 bt251.2) else (laws_FnExactDropClue.j2 kj60 bt251.1 true t236 bt251.2))))) else (some false))))) = some r := by rw [if_neg (show ¬ (false = true) by decide)] at H; exact H
                  clear H
                  have H := H1
                  clear H1
                  replace H := Option.bind_eq_some_iff.mp H
                  obtain ⟨⟨t251, t252⟩, A910, H⟩ := H
                  replace H : ((laws_heldPuzzle.f kj60 t236 t252 1).bind fun t253 => (if t253 < 0 then (some false) else (if t253 = t251 then ((laws_toPuzzle.f kj60 a0_0 l0_1).bind fun bt254 => ((impl_DropClue.f kj60 bt254.1 bt254.2 a1).bind fun bt258 => ((laws_eqPuzzle.f kj60 bt258.1 bt258.2.1 t225 t226).bind fun t264 => (if t264 = true then (laws_FnExactDropClue.j2 kj60 t251 (bt258.2.2 != t229) t236 t252) else (laws_FnExactDropClue.j2 kj60 t251 true t236 t252))))) else (some false)))) = some r := H
                  have A91 := Aside0.mk A910
                  clear A910
                  replace H := Option.bind_eq_some_iff.mp H
                  obtain ⟨t253, A920, H⟩ := H
                  replace H : (if t253 < 0 then (some false) else (if t253 = t251 then ((laws_toPuzzle.f kj60 a0_0 l0_1).bind fun bt254 => ((impl_DropClue.f kj60 bt254.1 bt254.2 a1).bind fun bt258 => ((laws_eqPuzzle.f kj60 bt258.1 bt258.2.1 t225 t226).bind fun t264 => (if t264 = true then (laws_FnExactDropClue.j2 kj60 t251 (bt258.2.2 != t229) t236 t252) else (laws_FnExactDropClue.j2 kj60 t251 true t236 t252))))) else (some false))) = some r := H
                  have A92 := Aside0.mk A920
                  clear A920
                  by_cases c93 : t253 < 0
                  · rw [if_pos c93] at H
                    have c93b0 : decide (t253 < 0) = true := decide_eq_true c93
                    clear c93
                    exact absurd (Option.some.inj H) (by rw [hr_]; decide)
                  · rw [if_neg c93] at H
                    have c93b0 : decide (t253 < 0) = false := decide_eq_false c93
                    clear c93
                    by_cases c94 : t253 = t251
                    · rw [if_pos c94] at H
                      have c94b0 : (t253 == t251) = true := beq_iff_eq.mpr c94
                      have c94b1 : (t253 != t251) = false := bne_eq_false_iff_eq.mpr c94
                      clear c94
                      replace H := Option.bind_eq_some_iff.mp H
                      obtain ⟨⟨t254, t255⟩, A950, H⟩ := H
                      replace H : ((impl_DropClue.f kj60 t254 t255 a1).bind fun bt258 => ((laws_eqPuzzle.f kj60 bt258.1 bt258.2.1 t225 t226).bind fun t264 => (if t264 = true then (laws_FnExactDropClue.j2 kj60 t251 (bt258.2.2 != t229) t236 t252) else (laws_FnExactDropClue.j2 kj60 t251 true t236 t252)))) = some r := H
                      have A95 := Aside0.mk A950
                      clear A950
                      replace H := Option.bind_eq_some_iff.mp H
                      obtain ⟨⟨t258, t259, t262⟩, A960, H⟩ := H
                      replace H : ((laws_eqPuzzle.f kj60 t258 t259 t225 t226).bind fun t264 => (if t264 = true then (laws_FnExactDropClue.j2 kj60 t251 (t262 != t229) t236 t252) else (laws_FnExactDropClue.j2 kj60 t251 true t236 t252))) = some r := H
                      have A96 := Aside0.mk A960
                      clear A960
                      have HC97 := Aside0.mk H
                      clear H
                      have hnb98 := NB241_219.out
                      have hnc98 := NB219_241.out
                      have hnb99 := NB241_230.out
                      have hnc99 := NB230_241.out
                      have hnb100 := NB241_235.out
                      have hnc100 := NB235_241.out
                      have hcz101_0 : wc.cell? ⟨gb241, 0, none⟩ = some (.int .i64 t236) := (blk_cell BK241.out 0).trans rfl
                      have hcz101_1 : wc.cell? ⟨gb241, 1, none⟩ = some (.slice Ao37 t237.length co37) := (blk_cell BK241.out 1).trans rfl
                      have hfz101_0 := blk_frozen BK241.out 0
                      have hfz101_1 := blk_frozen BK241.out 1
                      go_upto_region 25 with (first | ((with_reducible refine gate_callee (f := 26) rfl ?_); refine goesL_ (some 68) rfl rfl Try.func26 (by kernel_rfl) rfl #[.agg #[.int .i64 t236, .slice Ao37 t237.length co37], .int .i64 1] rfl ga_ ?_; (with_reducible refine (laws_markPuzzle.calls kj60 t236 (fun k_ => some k_ = (.slice Ao37 t237.length co37 : Value).ownBlock) (.slice Ao37 t237.length co37) t237 1 t251 t252 w _ ?side1 ?side2 A91.out).mono ?_); (case side1 => repeat (first | (with_reducible first | exact HB.out | apply below_alloc | apply pw_below_drewN | apply below_drew1 | refine below_set ?_ GE219.out | refine below_set ?_ GE230.out | refine below_set ?_ GE235.out | refine below_set ?_ GE241.out) | exact HB.out)); (case side2 => exact Kd.R_tight rfl HO_242001.out); rintro e w102 ⟨rfl, hy0, hb, hkp⟩; refine ⟨_, rfl, ?_⟩; have n0_ := Aside0.mk (Kd.R_mono (ok' := fun k_ => some k_ ≠ (.slice Ao30 t249.length co30 : Value).ownBlock ∧ some k_ ≠ (.slice Ao37 t237.length co37 : Value).ownBlock) (Kd.R_keptB (HO_231001.out) hkp (fun k_ hk_ hs_ => (hk_.2) hs_)) (fun k_ hk_ => ⟨hk_.1.1, hk_.1.2⟩)); have n1_ := Aside0.mk (Kd.R_mono (ok' := fun k_ => some k_ ≠ (.slice Ao23 t226.length co23 : Value).ownBlock ∧ some k_ ≠ (.slice Ao37 t237.length co37 : Value).ownBlock) (Kd.R_keptB (HO_236001.out) hkp (fun k_ hk_ hs_ => (hk_.2) hs_)) (fun k_ hk_ => ⟨hk_.1.1, hk_.1.2⟩)); have n2_ := Aside0.mk (Kd.R_reok rfl hy0 (fun k_ e_ => HO_242001.out.1 k_ e_)); have n3_ := Aside0.mk (blk_kept (bk_ BK219.out) hkp (fun hs_ => (fun e_ => (Kd.R_ne HO_242001.out BK219.out (by decide)) e_) hs_)); have n4_ := Aside0.mk (blk_kept (bk_ BK230.out) hkp (fun hs_ => (fun e_ => (Kd.R_ne HO_242001.out BK230.out (by decide)) e_) hs_)); have n5_ := Aside0.mk (blk_kept (bk_ BK235.out) hkp (fun hs_ => (fun e_ => (Kd.R_ne HO_242001.out BK235.out (by decide)) e_) hs_)); have n6_ := Aside0.mk (blk_kept (bk_ BK241.out) hkp (fun hs_ => (fun e_ => (Kd.R_ne HO_242001.out BK241.out (by decide)) e_) hs_)); have n7_ := Aside0.mk (hb); clear HO_231001; clear HO_236001; clear HO_242001; clear BK219; clear BK230; clear BK235; clear BK241; clear HB; have HO_231001 := n0_; have HO_236001 := n1_; have HO_242001 := n2_; have BK219 := n3_; have BK230 := n4_; have BK235 := n5_; have BK241 := n6_; have HB := n7_; clear n0_ n1_ n2_ n3_ n4_ n5_ n6_ n7_; (try clear hb); (try clear hkp); (try clear hy0); have hcz103_0 : w102.cell? ⟨gb241, 0, none⟩ = some (.int .i64 t236) := (blk_cell BK241.out 0).trans rfl; have hcz103_1 : w102.cell? ⟨gb241, 1, none⟩ = some (.slice Ao37 t237.length co37) := (blk_cell BK241.out 1).trans rfl; have hfz103_0 := blk_frozen BK241.out 0; have hfz103_1 := blk_frozen BK241.out 1) | ((with_reducible refine gate_callee (f := 27) rfl ?_); refine goesL_ (some 71) rfl rfl Try.func27 (by kernel_rfl) rfl #[.agg #[.int .i64 t236, .slice Ao37 t252.length co37], .int .i64 1] rfl (by (try simp only [List.map_toArray, List.map_cons, List.map_nil]); first | done | (rw [show t252.length = t237.length from (Kd.R_reads' HO_242001.out).1.symm] <;> rfl) | rfl | (simp only [List.length_drop, List.length_take]; rfl)) ?_; (with_reducible refine (laws_heldPuzzle.calls kj60 t236 _ _ t252 1 t253 _ ?side1 ?side2 A92.out).mono ?_); (case side1 => repeat (first | exact (Kd.R_reads' HO_242001.out).2.2 | (with_reducible refine Kd.C_alloc ?_ _) | (with_reducible refine Kd.C_drewN ?_ _) | (with_reducible refine Kd.C_drew ?_))); (case side2 => rw [show t252.length = t237.length from (Kd.R_reads' HO_242001.out).1.symm]; exact (Kd.R_reads' HO_242001.out).2.1); rintro e w104 ⟨rfl, hb⟩; refine ⟨_, rfl, ?_⟩; have n0_ := Aside0.mk (Kd.R_below (rk_ HO_231001.out) hb); have n1_ := Aside0.mk (Kd.R_below (rk_ HO_236001.out) hb); have n2_ := Aside0.mk (Kd.R_below (rk_ HO_242001.out) hb); have n3_ := bb_ BK219 hb; have n4_ := bb_ BK230 hb; have n5_ := bb_ BK235 hb; have n6_ := bb_ BK241 hb; have n7_ := Aside0.mk (below_step (hbg_) hb); clear HO_231001; clear HO_236001; clear HO_242001; clear BK219; clear BK230; clear BK235; clear BK241; clear HB; have HO_231001 := n0_; have HO_236001 := n1_; have HO_242001 := n2_; have BK219 := n3_; have BK230 := n4_; have BK235 := n5_; have BK241 := n6_; have HB := n7_; clear n0_ n1_ n2_ n3_ n4_ n5_ n6_ n7_; (try clear hb); (try clear hb2); (try clear hk); (try clear hi); have hnb105 := NB219_230.out; have hnc105 := NB230_219.out; have hnb106 := NB219_235.out; have hnc106 := NB235_219.out; have hcz107_0 : w104.cell? ⟨gb219, 0, none⟩ = some (.int .i64 a0_0) := (blk_cell BK219.out 0).trans rfl; have hcz107_1 : w104.cell? ⟨gb219, 1, none⟩ = some (.slice A0_1 l0_1.length c0_1) := (blk_cell BK219.out 1).trans rfl; have hfz107_0 := blk_frozen BK219.out 0; have hfz107_1 := blk_frozen BK219.out 1) | ((with_reducible refine gate_callee (f := 17) rfl ?_); refine goesL_ (some 79) rfl rfl Try.func17 (by kernel_rfl) rfl #[.agg #[.int .i64 a0_0, .slice A0_1 l0_1.length c0_1]] rfl ga_ ?_; (with_reducible refine (laws_toPuzzle.calls kj60 a0_0 _ _ l0_1 t254 t255 _ ?side1 ?side2 A95.out).mono ?_); (case side1 => repeat (first | exact (Kd.C_below HR0_1.out HB.out) | (with_reducible refine Kd.C_alloc ?_ _) | (with_reducible refine Kd.C_drewN ?_ _) | (with_reducible refine Kd.C_drew ?_))); (case side2 => exact HC0_1.out); rintro e w108 ⟨v256, rfl, ho0, hb⟩; refine ⟨_, rfl, ?_⟩; have n0_ := Aside0.mk (Kd.R_elder' (rk_ HO_231001.out) (Kd.R_base ho0) hb); have n1_ := Aside0.mk (Kd.R_elder' (rk_ HO_236001.out) (Kd.R_base ho0) hb); have n2_ := Aside0.mk (Kd.R_elder' (rk_ HO_242001.out) (Kd.R_base ho0) hb); have n3_ := Aside0.mk (Kd.R_lower (Kd.R_new' (Kd.R_new' (Kd.R_new' ho0 (Kd.R_lt (rk_ HO_231001.out))) (Kd.R_lt (rk_ HO_236001.out))) (Kd.R_lt (rk_ HO_242001.out))) (below_size (hbg_))); have n4_ := bb_ BK219 hb; have n5_ := bb_ BK230 hb; have n6_ := bb_ BK235 hb; have n7_ := bb_ BK241 hb; have n8_ := Aside0.mk (below_step (hbg_) hb); clear HO_231001; clear HO_236001; clear HO_242001; clear BK219; clear BK230; clear BK235; clear BK241; clear HB; have HO_231001 := n0_; have HO_236001 := n1_; have HO_242001 := n2_; have HO257 := n3_; have BK219 := n4_; have BK230 := n5_; have BK235 := n6_; have BK241 := n7_; have HB := n8_; clear n0_ n1_ n2_ n3_ n4_ n5_ n6_ n7_ n8_; (try clear hb); (try clear hb2); (try clear hk); (try clear hi); (try clear ho0); obtain ⟨Ao109, co109, eo109⟩ := Kd.R_slice HO257.out; subst eo109) | ((with_reducible refine gate_callee (f := 31) rfl ?_); refine goesL_ (some 81) rfl rfl Try.func31 (by kernel_rfl) rfl #[.agg #[.int .i64 t254, .slice Ao109 t255.length co109], .int .i64 a1] rfl ga_ ?_; (with_reducible refine (impl_DropClue.calls kj60 t254 _ _ t255 a1 t258 t259 t262 _ ?side1 ?side2 A96.out).mono ?_); (case side1 => repeat (first | exact (Kd.R_reads' HO257.out).2.2 | (with_reducible refine Kd.C_alloc ?_ _) | (with_reducible refine Kd.C_drewN ?_ _) | (with_reducible refine Kd.C_drew ?_))); (case side2 => exact (Kd.R_reads' HO257.out).2.1); rintro e w110 ⟨v260, rfl, ho0, hb⟩; refine ⟨_, rfl, ?_⟩; have n0_ := Aside0.mk (Kd.R_elder' (rk_ HO_231001.out) (Kd.R_base ho0) hb); have n1_ := Aside0.mk (Kd.R_elder' (rk_ HO_236001.out) (Kd.R_base ho0) hb); have n2_ := Aside0.mk (Kd.R_elder' (rk_ HO_242001.out) (Kd.R_base ho0) hb); have n3_ := Aside0.mk (Kd.R_elder' (rk_ HO257.out) (Kd.R_base ho0) hb); have n4_ := Aside0.mk (Kd.R_lower (Kd.R_new' (Kd.R_new' (Kd.R_new' (Kd.R_new' ho0 (Kd.R_lt (rk_ HO_231001.out))) (Kd.R_lt (rk_ HO_236001.out))) (Kd.R_lt (rk_ HO_242001.out))) (Kd.R_lt (rk_ HO257.out))) (below_size (hbg_))); have n5_ := bb_ BK219 hb; have n6_ := bb_ BK230 hb; have n7_ := bb_ BK235 hb; have n8_ := bb_ BK241 hb; have n9_ := Aside0.mk (below_step (hbg_) hb); clear HO_231001; clear HO_236001; clear HO_242001; clear HO257; clear BK219; clear BK230; clear BK235; clear BK241; clear HB; have HO_231001 := n0_; have HO_236001 := n1_; have HO_242001 := n2_; have HO257 := n3_; have HO261 := n4_; have BK219 := n5_; have BK230 := n6_; have BK235 := n7_; have BK241 := n8_; have HB := n9_; clear n0_ n1_ n2_ n3_ n4_ n5_ n6_ n7_ n8_ n9_; (try clear hb); (try clear hb2); (try clear hk); (try clear hi); (try clear ho0)) | ((with_reducible refine gate_dst (N := 14) rfl ?_); refine box_event ?hg (N := 14) ?hd (cs := #[.int .i64 0, .slice none 0 0]) (t := 29) ?hr ?_; (case hd => rfl); (case hg => rfl); (case hr => first | (go_simp; done) | (go_simp; rfl)); intro gb263 hg w111 hbox hb; have n0_ := Aside0.mk (Kd.R_below (rk_ HO_231001.out) hb); have n1_ := Aside0.mk (Kd.R_below (rk_ HO_236001.out) hb); have n2_ := Aside0.mk (Kd.R_below (rk_ HO_242001.out) hb); have n3_ := Aside0.mk (Kd.R_below (rk_ HO257.out) hb); have n4_ := Aside0.mk (Kd.R_below (rk_ HO261.out) hb); have n5_ := bb_ BK219 hb; have n6_ := bb_ BK230 hb; have n7_ := bb_ BK235 hb; have n8_ := bb_ BK241 hb; have n9_ := Aside0.mk (below_step (hbg_) hb); have n10_ := Aside0.mk (hbox); have n11_ := Aside0.mk ((by rw [hg]; exact (below_size (hbg_)) : w.heap.size ≤ gb263)); have n12_ := Aside0.mk ((by rw [hg]; exact (below_size (hbg_)) : w.heap.size ≤ gb263)); have n13_ := Aside0.mk ((by rw [hg]; exact Nat.ne_of_lt (blk_lt (bk_ BK219.out)) : gb219 ≠ gb263)); have n14_ := Aside0.mk ((by rw [hg]; exact Nat.ne_of_gt (blk_lt (bk_ BK219.out)) : gb263 ≠ gb219)); have n15_ := Aside0.mk ((by rw [hg]; exact Nat.ne_of_lt (blk_lt (bk_ BK230.out)) : gb230 ≠ gb263)); have n16_ := Aside0.mk ((by rw [hg]; exact Nat.ne_of_gt (blk_lt (bk_ BK230.out)) : gb263 ≠ gb230)); have n17_ := Aside0.mk ((by rw [hg]; exact Nat.ne_of_lt (blk_lt (bk_ BK235.out)) : gb235 ≠ gb263)); have n18_ := Aside0.mk ((by rw [hg]; exact Nat.ne_of_gt (blk_lt (bk_ BK235.out)) : gb263 ≠ gb235)); have n19_ := Aside0.mk ((by rw [hg]; exact Nat.ne_of_lt (blk_lt (bk_ BK241.out)) : gb241 ≠ gb263)); have n20_ := Aside0.mk ((by rw [hg]; exact Nat.ne_of_gt (blk_lt (bk_ BK241.out)) : gb263 ≠ gb241)); clear HO_231001; clear HO_236001; clear HO_242001; clear HO257; clear HO261; clear BK219; clear BK230; clear BK235; clear BK241; clear HB; have HO_231001 := n0_; have HO_236001 := n1_; have HO_242001 := n2_; have HO257 := n3_; have HO261 := n4_; have BK219 := n5_; have BK230 := n6_; have BK235 := n7_; have BK241 := n8_; have HB := n9_; have BK263 := n10_; have GW263 := n11_; have GE263 := n12_; have NB219_263 := n13_; have NB263_219 := n14_; have NB230_263 := n15_; have NB263_230 := n16_; have NB235_263 := n17_; have NB263_235 := n18_; have NB241_263 := n19_; have NB263_241 := n20_; clear n0_ n1_ n2_ n3_ n4_ n5_ n6_ n7_ n8_ n9_ n10_ n11_ n12_ n13_ n14_ n15_ n16_ n17_ n18_ n19_ n20_; clear hb hbox hg; have hnb112 := NB263_219.out; have hnc112 := NB219_263.out; have hnb113 := NB263_230.out; have hnc113 := NB230_263.out; have hnb114 := NB263_235.out; have hnc114 := NB235_263.out; have hnb115 := NB263_241.out; have hnc115 := NB241_263.out; have hcz116_0 : w111.cell? ⟨gb263, 0, none⟩ = some (.int .i64 0) := (blk_cell BK263.out 0).trans rfl; have hcz116_1 : w111.cell? ⟨gb263, 1, none⟩ = some (.slice none 0 0) := (blk_cell BK263.out 1).trans rfl; have hfz116_0 := blk_frozen BK263.out 0; have hfz116_1 := blk_frozen BK263.out 1; obtain ⟨Ao117, co117, eo117⟩ := Kd.R_slice HO261.out; subst eo117))
                      (try simp only [Act.put, List.setIfInBounds_toArray, List.set_cons_zero, List.set_cons_succ])
                      go_cut [92] (fun v92 wc => ∃ (kq : Nat) (x92_96 : Bool), v92 = .bool x92_96 ∧ Aside0 (laws_FnExactDropClue.j2 kq t251 x92_96 t236 t252 = some r) ∧ Aside0 (kq ≤ kj60) ∧ Aside0 (Kd.R k39 39 wc w.heap.size (fun k_ => some k_ ≠ ((.slice Ao30 t249.length co30) : Value).ownBlock ∧ some k_ ≠ ((.slice Ao37 t237.length co37) : Value).ownBlock ∧ some k_ ≠ ((.slice Ao117 t259.length co117) : Value).ownBlock) (.slice Ao23 t226.length co23) t226) ∧ Aside0 (Kd.R k39 39 wc w.heap.size (fun k_ => some k_ ≠ ((.slice Ao23 t226.length co23) : Value).ownBlock ∧ some k_ ≠ ((.slice Ao37 t237.length co37) : Value).ownBlock ∧ some k_ ≠ ((.slice Ao117 t259.length co117) : Value).ownBlock) (.slice Ao30 t249.length co30) t249) ∧ Aside0 (Kd.R k39 39 wc w.heap.size (fun k_ => some k_ ≠ ((.slice Ao23 t226.length co23) : Value).ownBlock ∧ some k_ ≠ ((.slice Ao30 t249.length co30) : Value).ownBlock ∧ some k_ ≠ ((.slice Ao117 t259.length co117) : Value).ownBlock) (.slice Ao37 t237.length co37) t252) ∧ Aside0 (Kd.R k39 39 wc w.heap.size (fun k_ => some k_ ≠ ((.slice Ao23 t226.length co23) : Value).ownBlock ∧ some k_ ≠ ((.slice Ao30 t249.length co30) : Value).ownBlock ∧ some k_ ≠ ((.slice Ao37 t237.length co37) : Value).ownBlock) (.slice Ao117 t259.length co117) t259) ∧ Aside0 (wc.heap[gb219]? = some (.cells #[.int .i64 a0_0, (.slice A0_1 l0_1.length c0_1)] 24 (0, 0))) ∧ Aside0 (wc.heap[gb230]? = some (.cells #[.int .i64 t225, (.slice Ao23 t226.length co23)] 29 (0, 0))) ∧ Aside0 (wc.heap[gb235]? = some (.cells #[.int .i64 t231, (.slice Ao30 t249.length co30)] 29 (0, 0))) ∧ Aside0 (wc.heap[gb241]? = some (.cells #[.int .i64 t236, (.slice Ao37 t237.length co37)] 29 (0, 0))) ∧ Aside0 (wc.heap[gb263]? = some (.cells #[.int .i64 t258, (.slice Ao117 t259.length co117)] 29 (0, 0))) ∧ Aside0 (Below w.heap.size w wc))
                      case first =>
                        have H := HC97.out
                        clear HC97
                        replace H := Option.bind_eq_some_iff.mp H
                        obtain ⟨t264, A1180, H⟩ := H
                        replace H : (if t264 = true then (laws_FnExactDropClue.j2 kj60 t251 (t262 != t229) t236 t252) else (laws_FnExactDropClue.j2 kj60 t251 true t236 t252)) = some r := H
                        have A118 := Aside0.mk A1180
                        clear A1180
                        by_cases c119 : t264 = true
                        · subst c119
                          have H1 : (laws_FnExactDropClue.j2 kj60 t251 (t262 != t229) t236 t252) = some r := by rw [if_pos rfl] at H; exact H
                          clear H
                          have H := H1
                          clear H1
                          have H' := Aside0.mk H
                          clear H
                          have hnb120 := NB263_219.out
                          have hnc120 := NB219_263.out
                          have hnb121 := NB263_230.out
                          have hnc121 := NB230_263.out
                          have hnb122 := NB263_235.out
                          have hnc122 := NB235_263.out
                          have hnb123 := NB263_241.out
                          have hnc123 := NB241_263.out
                          have hcz124_0 : w111.cell? ⟨gb263, 0, none⟩ = some (.int .i64 0) := (blk_cell BK263.out 0).trans rfl
                          have hcz124_1 : w111.cell? ⟨gb263, 1, none⟩ = some (.slice none 0 0) := (blk_cell BK263.out 1).trans rfl
                          have hfz124_0 := blk_frozen BK263.out 0
                          have hfz124_1 := blk_frozen BK263.out 1
                          have hnb125 := NB230_219.out
                          have hnc125 := NB219_230.out
                          have hnb126 := NB230_235.out
                          have hnc126 := NB235_230.out
                          have hnb127 := NB230_241.out
                          have hnc127 := NB241_230.out
                          have hcz128_0 : w111.cell? ⟨gb230, 0, none⟩ = some (.int .i64 t225) := (blk_cell BK230.out 0).trans rfl
                          have hcz128_1 : w111.cell? ⟨gb230, 1, none⟩ = some (.slice Ao23 t226.length co23) := (blk_cell BK230.out 1).trans rfl
                          have hfz128_0 := blk_frozen BK230.out 0
                          have hfz128_1 := blk_frozen BK230.out 1
                          go_wp2_with (first | ((with_reducible refine gate_callee (f := 19) rfl ?_); refine goesL_ (some 86) rfl rfl Try.func19 (by kernel_rfl) rfl #[.agg #[.int .i64 t258, .slice Ao117 t259.length co117], .agg #[.int .i64 t225, .slice Ao23 t226.length co23]] rfl ga_ ?_; (with_reducible refine (laws_eqPuzzle.calls kj60 t258 _ _ t259 t225 _ _ t226 true _ ?side1 ?side2 ?side3 ?side4 A118.out).mono ?_); (case side1 => refine (Kd.R_reads' (e := 39) (base := w.heap.size) (ok := fun k_ => ((((True ∧ some k_ ≠ (.slice Ao23 t226.length co23 : Value).ownBlock) ∧ some k_ ≠ (.slice Ao30 t249.length co30 : Value).ownBlock) ∧ some k_ ≠ (.slice Ao37 t237.length co37 : Value).ownBlock) ∧ some k_ ≠ (.slice Ao109 t255.length co109 : Value).ownBlock)) (n := t259.length) (c := co117) ?_).2.2; exact (by (with_reducible repeat (first | apply Kd.R_alloc | apply Kd.R_drewN | apply Kd.R_drew)); exact (Kd.R_mono (Kd.R_far (p := ⟨gb263, 1, none⟩) (Kd.R_far (p := ⟨gb263, 0, none⟩) (Kd.R_types HO261.out BK263.out (by decide)) (fun _ hk => hk.2) (.int .i64 t258)) (fun _ hk => hk.2) (.slice Ao117 t259.length co117)) (fun _ h_ => h_.1)))); (case side2 => exact (Kd.R_reads' HO261.out).2.1); (case side3 => refine (Kd.R_reads' (e := 39) (base := w.heap.size) (ok := fun k_ => (((some k_ ≠ (.slice Ao30 t249.length co30 : Value).ownBlock ∧ some k_ ≠ (.slice Ao37 t237.length co37 : Value).ownBlock) ∧ some k_ ≠ (.slice Ao109 t255.length co109 : Value).ownBlock) ∧ some k_ ≠ (.slice Ao117 t259.length co117 : Value).ownBlock)) (n := t226.length) (c := co23) ?_).2.2; exact (by (with_reducible repeat (first | apply Kd.R_alloc | apply Kd.R_drewN | apply Kd.R_drew)); exact (Kd.R_mono (Kd.R_far (p := ⟨gb263, 1, none⟩) (Kd.R_far (p := ⟨gb263, 0, none⟩) (Kd.R_types HO_231001.out BK263.out (by decide)) (fun _ hk => hk.2) (.int .i64 t258)) (fun _ hk => hk.2) (.slice Ao117 t259.length co117)) (fun _ h_ => h_.1)))); (case side4 => exact (Kd.R_reads' HO_231001.out).2.1); rintro e w129 ⟨rfl, hb⟩; refine ⟨_, rfl, ?_⟩; have n0_ := Aside0.mk (Kd.R_below (by (with_reducible repeat (first | apply Kd.R_alloc | apply Kd.R_drewN | apply Kd.R_drew)); exact (Kd.R_mono (Kd.R_far (p := ⟨gb263, 1, none⟩) (Kd.R_far (p := ⟨gb263, 0, none⟩) (Kd.R_types HO_231001.out BK263.out (by decide)) (fun _ hk => hk.2) (.int .i64 t258)) (fun _ hk => hk.2) (.slice Ao117 t259.length co117)) (fun _ h_ => h_.1))) hb); have n1_ := Aside0.mk (Kd.R_below (by (with_reducible repeat (first | apply Kd.R_alloc | apply Kd.R_drewN | apply Kd.R_drew)); exact (Kd.R_mono (Kd.R_far (p := ⟨gb263, 1, none⟩) (Kd.R_far (p := ⟨gb263, 0, none⟩) (Kd.R_types HO_236001.out BK263.out (by decide)) (fun _ hk => hk.2) (.int .i64 t258)) (fun _ hk => hk.2) (.slice Ao117 t259.length co117)) (fun _ h_ => h_.1))) hb); have n2_ := Aside0.mk (Kd.R_below (by (with_reducible repeat (first | apply Kd.R_alloc | apply Kd.R_drewN | apply Kd.R_drew)); exact (Kd.R_mono (Kd.R_far (p := ⟨gb263, 1, none⟩) (Kd.R_far (p := ⟨gb263, 0, none⟩) (Kd.R_types HO_242001.out BK263.out (by decide)) (fun _ hk => hk.2) (.int .i64 t258)) (fun _ hk => hk.2) (.slice Ao117 t259.length co117)) (fun _ h_ => h_.1))) hb); have n3_ := Aside0.mk (Kd.R_below (by (with_reducible repeat (first | apply Kd.R_alloc | apply Kd.R_drewN | apply Kd.R_drew)); exact (Kd.R_mono (Kd.R_far (p := ⟨gb263, 1, none⟩) (Kd.R_far (p := ⟨gb263, 0, none⟩) (Kd.R_types HO257.out BK263.out (by decide)) (fun _ hk => hk.2) (.int .i64 t258)) (fun _ hk => hk.2) (.slice Ao117 t259.length co117)) (fun _ h_ => h_.1))) hb); have n4_ := Aside0.mk (Kd.R_below (by (with_reducible repeat (first | apply Kd.R_alloc | apply Kd.R_drewN | apply Kd.R_drew)); exact (Kd.R_mono (Kd.R_far (p := ⟨gb263, 1, none⟩) (Kd.R_far (p := ⟨gb263, 0, none⟩) (Kd.R_types HO261.out BK263.out (by decide)) (fun _ hk => hk.2) (.int .i64 t258)) (fun _ hk => hk.2) (.slice Ao117 t259.length co117)) (fun _ h_ => h_.1))) hb); have n5_ := Aside0.mk (blk_below (g := gb219) (o := .cells #[.int .i64 a0_0, .slice A0_1 l0_1.length c0_1] 24 (0, 0)) (bf2_ BK219 NB219_263) hb); have n6_ := Aside0.mk (blk_below (g := gb230) (o := .cells #[.int .i64 t225, .slice Ao23 t226.length co23] 29 (0, 0)) (bf2_ BK230 NB230_263) hb); have n7_ := Aside0.mk (blk_below (g := gb235) (o := .cells #[.int .i64 t231, .slice Ao30 t249.length co30] 29 (0, 0)) (bf2_ BK235 NB235_263) hb); have n8_ := Aside0.mk (blk_below (g := gb241) (o := .cells #[.int .i64 t236, .slice Ao37 t237.length co37] 29 (0, 0)) (bf2_ BK241 NB241_263) hb); have n9_ := Aside0.mk (blk_below (g := gb263) (o := .cells #[.int .i64 t258, .slice Ao117 t259.length co117] 29 (0, 0)) (by (with_reducible repeat (first | refine blk_drewN ?_ _ | refine blk_drew ?_ | refine blk_alloc ?_ _)); refine blk_put (cs := #[.int .i64 t258, .slice none 0 0]) ?_ 1 _ rfl; (with_reducible repeat (first | refine blk_drewN ?_ _ | refine blk_drew ?_ | refine blk_alloc ?_ _)); refine blk_put (cs := #[.int .i64 0, .slice none 0 0]) ?_ 0 _ rfl; (with_reducible repeat (first | refine blk_drewN ?_ _ | refine blk_drew ?_ | refine blk_alloc ?_ _)); exact BK263.out) hb); have n10_ := Aside0.mk (below_step (hbg_) hb); clear HO_231001; clear HO_236001; clear HO_242001; clear HO257; clear HO261; clear BK219; clear BK230; clear BK235; clear BK241; clear BK263; clear HB; have HO_231001 := n0_; have HO_236001 := n1_; have HO_242001 := n2_; have HO257 := n3_; have HO261 := n4_; have BK219 := n5_; have BK230 := n6_; have BK235 := n7_; have BK241 := n8_; have BK263 := n9_; have HB := n10_; clear n0_ n1_ n2_ n3_ n4_ n5_ n6_ n7_ n8_ n9_ n10_; (try clear hb); (try clear hb2); (try clear hk); (try clear hi)))
                          go_meet
                          case rel => exact ⟨_, ((t262 != t229)), (by first | rfl | (simp; done) | (simp [*]; done)), H', ⟨by have := HJ11.out; have := HJ60.out; first | omega | exact Nat.le_refl _⟩, ⟨by (try simp only [hl236001_60]); (with_reducible repeat (first | apply Kd.R_alloc | apply Kd.R_drewN | apply Kd.R_drew)); exact Kd.R_mono HO_231001.out (fun _ hk => ⟨hk.1.1.1, ⟨hk.1.1.2, hk.2⟩⟩)⟩, ⟨by (try simp only [hl236001_60]); (with_reducible repeat (first | apply Kd.R_alloc | apply Kd.R_drewN | apply Kd.R_drew)); exact Kd.R_mono HO_236001.out (fun _ hk => ⟨hk.1.1.1, ⟨hk.1.1.2, hk.2⟩⟩)⟩, ⟨by (try simp only [hl236001_60]); (with_reducible repeat (first | apply Kd.R_alloc | apply Kd.R_drewN | apply Kd.R_drew)); exact Kd.R_mono HO_242001.out (fun _ hk => ⟨hk.1.1.1, ⟨hk.1.1.2, hk.2⟩⟩)⟩, ⟨by (try simp only [hl236001_60]); (with_reducible repeat (first | apply Kd.R_alloc | apply Kd.R_drewN | apply Kd.R_drew)); exact Kd.R_mono HO261.out (fun _ hk => ⟨hk.1.1.1.2, ⟨hk.1.1.2, hk.1.2⟩⟩)⟩, ⟨by (try simp only [hl236001_60]); (with_reducible repeat (first | refine blk_drewN ?_ _ | refine blk_drew ?_ | refine blk_alloc ?_ _)); exact BK219.out⟩, ⟨by (try simp only [hl236001_60]); (with_reducible repeat (first | refine blk_drewN ?_ _ | refine blk_drew ?_ | refine blk_alloc ?_ _)); exact BK230.out⟩, ⟨by (try simp only [hl236001_60]); (with_reducible repeat (first | refine blk_drewN ?_ _ | refine blk_drew ?_ | refine blk_alloc ?_ _)); exact BK235.out⟩, ⟨by (try simp only [hl236001_60]); (with_reducible repeat (first | refine blk_drewN ?_ _ | refine blk_drew ?_ | refine blk_alloc ?_ _)); exact BK241.out⟩, ⟨by (try simp only [hl236001_60]); (with_reducible repeat (first | refine blk_drewN ?_ _ | refine blk_drew ?_ | refine blk_alloc ?_ _)); exact BK263.out⟩, ⟨hbg_⟩⟩
                        · replace c119 := Bool.eq_false_iff.mpr c119
                          subst c119
                          have H1 : (laws_FnExactDropClue.j2 kj60 t251 true t236 t252) = some r := by rw [if_neg (show ¬ (false = true) by decide)] at H; exact H
                          clear H
                          have H := H1
                          clear H1
                          have H' := Aside0.mk H
                          clear H
                          have hnb130 := NB263_219.out
                          have hnc130 := NB219_263.out
                          have hnb131 := NB263_230.out
                          have hnc131 := NB230_263.out
                          have hnb132 := NB263_235.out
                          have hnc132 := NB235_263.out
                          have hnb133 := NB263_241.out
                          have hnc133 := NB241_263.out
                          have hcz134_0 : w111.cell? ⟨gb263, 0, none⟩ = some (.int .i64 0) := (blk_cell BK263.out 0).trans rfl
                          have hcz134_1 : w111.cell? ⟨gb263, 1, none⟩ = some (.slice none 0 0) := (blk_cell BK263.out 1).trans rfl
                          have hfz134_0 := blk_frozen BK263.out 0
                          have hfz134_1 := blk_frozen BK263.out 1
                          have hnb135 := NB230_219.out
                          have hnc135 := NB219_230.out
                          have hnb136 := NB230_235.out
                          have hnc136 := NB235_230.out
                          have hnb137 := NB230_241.out
                          have hnc137 := NB241_230.out
                          have hcz138_0 : w111.cell? ⟨gb230, 0, none⟩ = some (.int .i64 t225) := (blk_cell BK230.out 0).trans rfl
                          have hcz138_1 : w111.cell? ⟨gb230, 1, none⟩ = some (.slice Ao23 t226.length co23) := (blk_cell BK230.out 1).trans rfl
                          have hfz138_0 := blk_frozen BK230.out 0
                          have hfz138_1 := blk_frozen BK230.out 1
                          go_wp2_with (first | ((with_reducible refine gate_callee (f := 19) rfl ?_); refine goesL_ (some 86) rfl rfl Try.func19 (by kernel_rfl) rfl #[.agg #[.int .i64 t258, .slice Ao117 t259.length co117], .agg #[.int .i64 t225, .slice Ao23 t226.length co23]] rfl ga_ ?_; (with_reducible refine (laws_eqPuzzle.calls kj60 t258 _ _ t259 t225 _ _ t226 false _ ?side1 ?side2 ?side3 ?side4 A118.out).mono ?_); (case side1 => refine (Kd.R_reads' (e := 39) (base := w.heap.size) (ok := fun k_ => ((((True ∧ some k_ ≠ (.slice Ao23 t226.length co23 : Value).ownBlock) ∧ some k_ ≠ (.slice Ao30 t249.length co30 : Value).ownBlock) ∧ some k_ ≠ (.slice Ao37 t237.length co37 : Value).ownBlock) ∧ some k_ ≠ (.slice Ao109 t255.length co109 : Value).ownBlock)) (n := t259.length) (c := co117) ?_).2.2; exact (by (with_reducible repeat (first | apply Kd.R_alloc | apply Kd.R_drewN | apply Kd.R_drew)); exact (Kd.R_mono (Kd.R_far (p := ⟨gb263, 1, none⟩) (Kd.R_far (p := ⟨gb263, 0, none⟩) (Kd.R_types HO261.out BK263.out (by decide)) (fun _ hk => hk.2) (.int .i64 t258)) (fun _ hk => hk.2) (.slice Ao117 t259.length co117)) (fun _ h_ => h_.1)))); (case side2 => exact (Kd.R_reads' HO261.out).2.1); (case side3 => refine (Kd.R_reads' (e := 39) (base := w.heap.size) (ok := fun k_ => (((some k_ ≠ (.slice Ao30 t249.length co30 : Value).ownBlock ∧ some k_ ≠ (.slice Ao37 t237.length co37 : Value).ownBlock) ∧ some k_ ≠ (.slice Ao109 t255.length co109 : Value).ownBlock) ∧ some k_ ≠ (.slice Ao117 t259.length co117 : Value).ownBlock)) (n := t226.length) (c := co23) ?_).2.2; exact (by (with_reducible repeat (first | apply Kd.R_alloc | apply Kd.R_drewN | apply Kd.R_drew)); exact (Kd.R_mono (Kd.R_far (p := ⟨gb263, 1, none⟩) (Kd.R_far (p := ⟨gb263, 0, none⟩) (Kd.R_types HO_231001.out BK263.out (by decide)) (fun _ hk => hk.2) (.int .i64 t258)) (fun _ hk => hk.2) (.slice Ao117 t259.length co117)) (fun _ h_ => h_.1)))); (case side4 => exact (Kd.R_reads' HO_231001.out).2.1); rintro e w139 ⟨rfl, hb⟩; refine ⟨_, rfl, ?_⟩; have n0_ := Aside0.mk (Kd.R_below (by (with_reducible repeat (first | apply Kd.R_alloc | apply Kd.R_drewN | apply Kd.R_drew)); exact (Kd.R_mono (Kd.R_far (p := ⟨gb263, 1, none⟩) (Kd.R_far (p := ⟨gb263, 0, none⟩) (Kd.R_types HO_231001.out BK263.out (by decide)) (fun _ hk => hk.2) (.int .i64 t258)) (fun _ hk => hk.2) (.slice Ao117 t259.length co117)) (fun _ h_ => h_.1))) hb); have n1_ := Aside0.mk (Kd.R_below (by (with_reducible repeat (first | apply Kd.R_alloc | apply Kd.R_drewN | apply Kd.R_drew)); exact (Kd.R_mono (Kd.R_far (p := ⟨gb263, 1, none⟩) (Kd.R_far (p := ⟨gb263, 0, none⟩) (Kd.R_types HO_236001.out BK263.out (by decide)) (fun _ hk => hk.2) (.int .i64 t258)) (fun _ hk => hk.2) (.slice Ao117 t259.length co117)) (fun _ h_ => h_.1))) hb); have n2_ := Aside0.mk (Kd.R_below (by (with_reducible repeat (first | apply Kd.R_alloc | apply Kd.R_drewN | apply Kd.R_drew)); exact (Kd.R_mono (Kd.R_far (p := ⟨gb263, 1, none⟩) (Kd.R_far (p := ⟨gb263, 0, none⟩) (Kd.R_types HO_242001.out BK263.out (by decide)) (fun _ hk => hk.2) (.int .i64 t258)) (fun _ hk => hk.2) (.slice Ao117 t259.length co117)) (fun _ h_ => h_.1))) hb); have n3_ := Aside0.mk (Kd.R_below (by (with_reducible repeat (first | apply Kd.R_alloc | apply Kd.R_drewN | apply Kd.R_drew)); exact (Kd.R_mono (Kd.R_far (p := ⟨gb263, 1, none⟩) (Kd.R_far (p := ⟨gb263, 0, none⟩) (Kd.R_types HO257.out BK263.out (by decide)) (fun _ hk => hk.2) (.int .i64 t258)) (fun _ hk => hk.2) (.slice Ao117 t259.length co117)) (fun _ h_ => h_.1))) hb); have n4_ := Aside0.mk (Kd.R_below (by (with_reducible repeat (first | apply Kd.R_alloc | apply Kd.R_drewN | apply Kd.R_drew)); exact (Kd.R_mono (Kd.R_far (p := ⟨gb263, 1, none⟩) (Kd.R_far (p := ⟨gb263, 0, none⟩) (Kd.R_types HO261.out BK263.out (by decide)) (fun _ hk => hk.2) (.int .i64 t258)) (fun _ hk => hk.2) (.slice Ao117 t259.length co117)) (fun _ h_ => h_.1))) hb); have n5_ := Aside0.mk (blk_below (g := gb219) (o := .cells #[.int .i64 a0_0, .slice A0_1 l0_1.length c0_1] 24 (0, 0)) (bf2_ BK219 NB219_263) hb); have n6_ := Aside0.mk (blk_below (g := gb230) (o := .cells #[.int .i64 t225, .slice Ao23 t226.length co23] 29 (0, 0)) (bf2_ BK230 NB230_263) hb); have n7_ := Aside0.mk (blk_below (g := gb235) (o := .cells #[.int .i64 t231, .slice Ao30 t249.length co30] 29 (0, 0)) (bf2_ BK235 NB235_263) hb); have n8_ := Aside0.mk (blk_below (g := gb241) (o := .cells #[.int .i64 t236, .slice Ao37 t237.length co37] 29 (0, 0)) (bf2_ BK241 NB241_263) hb); have n9_ := Aside0.mk (blk_below (g := gb263) (o := .cells #[.int .i64 t258, .slice Ao117 t259.length co117] 29 (0, 0)) (by (with_reducible repeat (first | refine blk_drewN ?_ _ | refine blk_drew ?_ | refine blk_alloc ?_ _)); refine blk_put (cs := #[.int .i64 t258, .slice none 0 0]) ?_ 1 _ rfl; (with_reducible repeat (first | refine blk_drewN ?_ _ | refine blk_drew ?_ | refine blk_alloc ?_ _)); refine blk_put (cs := #[.int .i64 0, .slice none 0 0]) ?_ 0 _ rfl; (with_reducible repeat (first | refine blk_drewN ?_ _ | refine blk_drew ?_ | refine blk_alloc ?_ _)); exact BK263.out) hb); have n10_ := Aside0.mk (below_step (hbg_) hb); clear HO_231001; clear HO_236001; clear HO_242001; clear HO257; clear HO261; clear BK219; clear BK230; clear BK235; clear BK241; clear BK263; clear HB; have HO_231001 := n0_; have HO_236001 := n1_; have HO_242001 := n2_; have HO257 := n3_; have HO261 := n4_; have BK219 := n5_; have BK230 := n6_; have BK235 := n7_; have BK241 := n8_; have BK263 := n9_; have HB := n10_; clear n0_ n1_ n2_ n3_ n4_ n5_ n6_ n7_ n8_ n9_ n10_; (try clear hb); (try clear hb2); (try clear hk); (try clear hi)))
                          go_meet
                          case rel => exact ⟨_, (true), (by first | rfl | (simp; done) | (simp [*]; done)), H', ⟨by have := HJ11.out; have := HJ60.out; first | omega | exact Nat.le_refl _⟩, ⟨by (try simp only [hl236001_60]); (with_reducible repeat (first | apply Kd.R_alloc | apply Kd.R_drewN | apply Kd.R_drew)); exact Kd.R_mono HO_231001.out (fun _ hk => ⟨hk.1.1.1, ⟨hk.1.1.2, hk.2⟩⟩)⟩, ⟨by (try simp only [hl236001_60]); (with_reducible repeat (first | apply Kd.R_alloc | apply Kd.R_drewN | apply Kd.R_drew)); exact Kd.R_mono HO_236001.out (fun _ hk => ⟨hk.1.1.1, ⟨hk.1.1.2, hk.2⟩⟩)⟩, ⟨by (try simp only [hl236001_60]); (with_reducible repeat (first | apply Kd.R_alloc | apply Kd.R_drewN | apply Kd.R_drew)); exact Kd.R_mono HO_242001.out (fun _ hk => ⟨hk.1.1.1, ⟨hk.1.1.2, hk.2⟩⟩)⟩, ⟨by (try simp only [hl236001_60]); (with_reducible repeat (first | apply Kd.R_alloc | apply Kd.R_drewN | apply Kd.R_drew)); exact Kd.R_mono HO261.out (fun _ hk => ⟨hk.1.1.1.2, ⟨hk.1.1.2, hk.1.2⟩⟩)⟩, ⟨by (try simp only [hl236001_60]); (with_reducible repeat (first | refine blk_drewN ?_ _ | refine blk_drew ?_ | refine blk_alloc ?_ _)); exact BK219.out⟩, ⟨by (try simp only [hl236001_60]); (with_reducible repeat (first | refine blk_drewN ?_ _ | refine blk_drew ?_ | refine blk_alloc ?_ _)); exact BK230.out⟩, ⟨by (try simp only [hl236001_60]); (with_reducible repeat (first | refine blk_drewN ?_ _ | refine blk_drew ?_ | refine blk_alloc ?_ _)); exact BK235.out⟩, ⟨by (try simp only [hl236001_60]); (with_reducible repeat (first | refine blk_drewN ?_ _ | refine blk_drew ?_ | refine blk_alloc ?_ _)); exact BK241.out⟩, ⟨by (try simp only [hl236001_60]); (with_reducible repeat (first | refine blk_drewN ?_ _ | refine blk_drew ?_ | refine blk_alloc ?_ _)); exact BK263.out⟩, ⟨hbg_⟩⟩
                      case rest =>
                        clear HC97
                        try clear c1
                        try clear c2
                        try clear p2
                        try clear c3
                        try clear c4
                        try clear c4b0
                        try clear c5
                        try clear c6
                        try clear c7
                        try clear c8
                        try clear c9
                        try clear c10
                        try clear c11
                        try clear c12
                        try clear c13
                        try clear c15
                        try clear c17
                        try clear c19
                        try clear c21
                        try clear c26
                        try clear c27
                        try clear c28
                        try clear c30
                        try clear c31
                        try clear c33
                        try clear c34
                        try clear c35
                        try clear c39
                        try clear c40
                        try clear c41
                        try clear c42
                        try clear c44
                        try clear c45
                        try clear c48
                        try clear c49
                        try clear c50
                        try clear c52
                        try clear c53
                        try clear c56
                        try clear c59
                        try clear c66
                        try clear c67
                        try clear c68
                        try clear c71
                        try clear c71b0
                        try clear c73
                        try clear c74
                        try clear c75
                        try clear c76
                        try clear c78
                        try clear c79
                        try clear c82
                        try clear c83
                        try clear c84
                        try clear c86
                        try clear c87
                        try clear c90
                        try clear c93
                        try clear c93b0
                        try clear c94
                        try clear c94b0
                        try clear c94b1
                        try clear c98
                        try clear c99
                        try clear c100
                        try clear c105
                        try clear c106
                        try clear c112
                        try clear c113
                        try clear c114
                        try clear c115
                        try clear c119
                        try clear c120
                        try clear c121
                        try clear c122
                        try clear c123
                        try clear c125
                        try clear c126
                        try clear c127
                        try clear c130
                        try clear c131
                        try clear c132
                        try clear c133
                        try clear c135
                        try clear c136
                        try clear c137
                        try clear hcz101_0
                        try clear hcz101_1
                        try clear hcz103_0
                        try clear hcz103_1
                        try clear hcz107_0
                        try clear hcz107_1
                        try clear hcz116_0
                        try clear hcz116_1
                        try clear hcz124_0
                        try clear hcz124_1
                        try clear hcz128_0
                        try clear hcz128_1
                        try clear hcz134_0
                        try clear hcz134_1
                        try clear hcz138_0
                        try clear hcz138_1
                        try clear hcz14_0
                        try clear hcz14_1
                        try clear hcz16_0
                        try clear hcz16_1
                        try clear hcz22_0
                        try clear hcz22_1
                        try clear hcz24_0
                        try clear hcz24_1
                        try clear hcz29_0
                        try clear hcz29_1
                        try clear hcz36_0
                        try clear hcz36_1
                        try clear hcz43_0
                        try clear hcz43_1
                        try clear hcz46_0
                        try clear hcz46_1
                        try clear hcz51_0
                        try clear hcz51_1
                        try clear hcz54_0
                        try clear hcz54_1
                        try clear hcz69_0
                        try clear hcz69_1
                        try clear hcz6_0
                        try clear hcz6_1
                        try clear hcz77_0
                        try clear hcz77_1
                        try clear hcz80_0
                        try clear hcz80_1
                        try clear hcz85_0
                        try clear hcz85_1
                        try clear hcz88_0
                        try clear hcz88_1
                        try clear hfz101_0
                        try clear hfz101_1
                        try clear hfz103_0
                        try clear hfz103_1
                        try clear hfz107_0
                        try clear hfz107_1
                        try clear hfz116_0
                        try clear hfz116_1
                        try clear hfz124_0
                        try clear hfz124_1
                        try clear hfz128_0
                        try clear hfz128_1
                        try clear hfz134_0
                        try clear hfz134_1
                        try clear hfz138_0
                        try clear hfz138_1
                        try clear hfz14_0
                        try clear hfz14_1
                        try clear hfz16_0
                        try clear hfz16_1
                        try clear hfz22_0
                        try clear hfz22_1
                        try clear hfz24_0
                        try clear hfz24_1
                        try clear hfz29_0
                        try clear hfz29_1
                        try clear hfz36_0
                        try clear hfz36_1
                        try clear hfz43_0
                        try clear hfz43_1
                        try clear hfz46_0
                        try clear hfz46_1
                        try clear hfz51_0
                        try clear hfz51_1
                        try clear hfz54_0
                        try clear hfz54_1
                        try clear hfz69_0
                        try clear hfz69_1
                        try clear hfz6_0
                        try clear hfz6_1
                        try clear hfz77_0
                        try clear hfz77_1
                        try clear hfz80_0
                        try clear hfz80_1
                        try clear hfz85_0
                        try clear hfz85_1
                        try clear hfz88_0
                        try clear hfz88_1
                        try clear p2
                        obtain ⟨kq, x92_96, rfl, HA, HJ96, HO_231001, HO_236001, HO_242001, HO_264001, BK219, BK230, BK235, BK241, BK263, HB⟩ := hcut
                        have hl242001_96 := (Kd.R_reads' HO_242001.out).1
                        rw [hl242001_96] at HO_242001
                        (try simp only [hl242001_96])
                        (try simp only [hl242001_96] at BK219)
                        (try simp only [hl242001_96] at BK230)
                        (try simp only [hl242001_96] at BK235)
                        (try simp only [hl242001_96] at BK241)
                        (try simp only [hl242001_96] at BK263)
                        (try simp only [hl242001_96] at HO_231001)
                        (try simp only [hl242001_96] at HO_236001)
                        (try simp only [hl242001_96] at HO_264001)
                        cases kq with
                        | zero => exact absurd HA.out (by simp [laws_FnExactDropClue.j2])
                        | succ kj96 =>
                          have H := HA.out
                          clear HA
                          simp only [laws_FnExactDropClue.j2] at H
                          by_cases c140 : x92_96 = true
                          · subst c140
                            have H1 : (some false) = some r := by rw [if_pos rfl] at H; exact H
                            clear H
                            have H := H1
                            clear H1
                            exact absurd (Option.some.inj H) (by rw [hr_]; decide)
                          · replace c140 := Bool.eq_false_iff.mpr c140
                            subst c140
                            have H1 : ((laws_heldPuzzle.f kj96 t236 t252 1).bind fun t265 => (if t265 < 0 then (some false) else (if t265 = t251 then (some true) else (some false)))) = some r := by rw [if_neg (show ¬ (false = true) by decide)] at H; exact H
                            clear H
                            have H := H1
                            clear H1
                            replace H := Option.bind_eq_some_iff.mp H
                            obtain ⟨t265, A1410, H⟩ := H
                            replace H : (if t265 < 0 then (some false) else (if t265 = t251 then (some true) else (some false))) = some r := H
                            have A141 := Aside0.mk A1410
                            clear A1410
                            by_cases c142 : t265 < 0
                            · rw [if_pos c142] at H
                              have c142b0 : decide (t265 < 0) = true := decide_eq_true c142
                              clear c142
                              exact absurd (Option.some.inj H) (by rw [hr_]; decide)
                            · rw [if_neg c142] at H
                              have c142b0 : decide (t265 < 0) = false := decide_eq_false c142
                              clear c142
                              by_cases c143 : t265 = t251
                              · rw [if_pos c143] at H
                                have c143b0 : (t265 == t251) = true := beq_iff_eq.mpr c143
                                have c143b1 : (t265 != t251) = false := bne_eq_false_iff_eq.mpr c143
                                clear c143
                                obtain rfl := Option.some.inj H
                                have hnb144 := NB241_219.out
                                have hnc144 := NB219_241.out
                                have hnb145 := NB241_230.out
                                have hnc145 := NB230_241.out
                                have hnb146 := NB241_235.out
                                have hnc146 := NB235_241.out
                                have hnb147 := NB241_263.out
                                have hnc147 := NB263_241.out
                                have hcz148_0 : wc.cell? ⟨gb241, 0, none⟩ = some (.int .i64 t236) := (blk_cell BK241.out 0).trans rfl
                                have hcz148_1 : wc.cell? ⟨gb241, 1, none⟩ = some (.slice Ao37 t252.length co37) := (blk_cell BK241.out 1).trans rfl
                                have hfz148_0 := blk_frozen BK241.out 0
                                have hfz148_1 := blk_frozen BK241.out 1
                                go_wp2_with (first | ((with_reducible refine gate_callee (f := 27) rfl ?_); refine goesL_ (some 95) rfl rfl Try.func27 (by kernel_rfl) rfl #[.agg #[.int .i64 t236, .slice Ao37 t252.length co37], .int .i64 1] rfl ga_ ?_; (with_reducible refine (laws_heldPuzzle.calls kj96 t236 _ _ t252 1 t265 _ ?side1 ?side2 A141.out).mono ?_); (case side1 => repeat (first | exact (Kd.R_reads' HO_242001.out).2.2 | (with_reducible refine Kd.C_alloc ?_ _) | (with_reducible refine Kd.C_drewN ?_ _) | (with_reducible refine Kd.C_drew ?_))); (case side2 => exact (Kd.R_reads' HO_242001.out).2.1); rintro e w149 ⟨rfl, hb⟩; refine ⟨_, rfl, ?_⟩; have n0_ := Aside0.mk (Kd.R_below (rk_ HO_231001.out) hb); have n1_ := Aside0.mk (Kd.R_below (rk_ HO_236001.out) hb); have n2_ := Aside0.mk (Kd.R_below (rk_ HO_242001.out) hb); have n3_ := Aside0.mk (Kd.R_below (rk_ HO_264001.out) hb); have n4_ := bb_ BK219 hb; have n5_ := bb_ BK230 hb; have n6_ := bb_ BK235 hb; have n7_ := bb_ BK241 hb; have n8_ := bb_ BK263 hb; have n9_ := Aside0.mk (below_step (hbg_) hb); clear HO_231001; clear HO_236001; clear HO_242001; clear HO_264001; clear BK219; clear BK230; clear BK235; clear BK241; clear BK263; clear HB; have HO_231001 := n0_; have HO_236001 := n1_; have HO_242001 := n2_; have HO_264001 := n3_; have BK219 := n4_; have BK230 := n5_; have BK235 := n6_; have BK241 := n7_; have BK263 := n8_; have HB := n9_; clear n0_ n1_ n2_ n3_ n4_ n5_ n6_ n7_ n8_ n9_; (try clear hb); (try clear hb2); (try clear hk); (try clear hi)))
                                go_ret
                                exact ⟨by first | rfl | (simp [errW_none, errW_some] <;> rfl) | (simp [*, errW_none, errW_some] <;> rfl), hbg_⟩
                              · rw [if_neg c143] at H
                                have c143b0 : (t265 == t251) = false := beq_eq_false_iff_ne.mpr c143
                                have c143b1 : (t265 != t251) = true := bne_iff_ne.mpr c143
                                exact absurd (Option.some.inj H) (by rw [hr_]; decide)
                    · rw [if_neg c94] at H
                      have c94b0 : (t253 == t251) = false := beq_eq_false_iff_ne.mpr c94
                      have c94b1 : (t253 != t251) = true := bne_iff_ne.mpr c94
                      exact absurd (Option.some.inj H) (by rw [hr_]; decide)
          · replace c59 := Bool.eq_false_iff.mpr c59
            subst c59
            have H1 : (some false) = some r := by rw [if_neg (show ¬ (false = true) by decide)] at H; exact H
            clear H
            have H := H1
            clear H1
            exact absurd (Option.some.inj H) (by rw [hr_]; decide)

end Go.Proofs.Ytlhiificglpgkaa.MW
