-- Written by a program of this session (wip/print/myprint.py) over the kit's printer; Lean checks it.
import Derived.Test.YtnnmpdhijdkpcaaMWx0
import Derived.Test.YtnnmpdhijdkpcaaMWx2
import Derived.Test.YtnnmpdhijdkpcaaMWx3
import Derived.Test.YtnnmpdhijdkpcaaMWx10
import Derived.Test.YtnnmpdhijdkpcaaMWx20
import Derived.Test.YtnnmpdhijdkpcaaMWx21
namespace Go.Proofs.Ytnnmpdhijdkpcaa.MW
open Go.RowKit Go.Proofs.YtnnmpdhijdkpcaaW.PrintWords Go.Proofs.YtnnmpdhijdkpcaaW.PrintLast Go.Proofs.YtnnmpdhijdkpcaaW.PrintMore Go.Proofs.YtnnmpdhijdkpcaaV
attribute [local go_sem] max2_int min2_int max_two min_two max_three min_three max_four min_four   -- for this text's walks alone
set_option linter.unusedVariables false
set_option linter.unusedSimpArgs false

/-! ### laws_FnExactMostConvex: function 4 -/
mutual
def laws_FnExactMostConvex.j0 : Nat → List (S39) → List (S37) → Bool → List (S37) → List (S37) → Bool → Bool → Option (Bool)
 | 0, _, _, _, _, _, _, _ => none
 | k + 1, x0, x4, x5, x6, x7, x8, x40 => if x40 = true then (some false) else ((laws_toPegS.f k x0).bind fun t326 => ((laws_eqPegS.f k x6 t326).bind fun t329 => (if t329 = true then ((laws_markPegS.f k x6 1).bind fun bt330 => (if bt330.1 < 0 then (laws_FnExactMostConvex.j1 k x0 x4 x5 x7 true) else ((laws_eqPegS.f k x7 x4).bind fun t332 => (if t332 = true then (laws_FnExactMostConvex.j1 k x0 x4 x5 x7 (x8 != x5)) else (laws_FnExactMostConvex.j1 k x0 x4 x5 x7 true))))) else (some false))))
def laws_FnExactMostConvex.j1 : Nat → List (S39) → List (S37) → Bool → List (S37) → Bool → Option (Bool)
 | 0, _, _, _, _, _ => none
 | k + 1, x0, x4, x5, x7, x61 => if x61 = true then (some false) else ((laws_markPegS.f k x7 1).bind fun bt333 => ((laws_heldPegS.f k bt333.2 1).bind fun t335 => (if t335 < 0 then (some false) else (if t335 = bt333.1 then ((laws_toPegS.f k x0).bind fun t336 => ((impl_MostConvex.f k t336).bind fun bt339 => ((laws_eqPegS.f k bt339.1 x4).bind fun t343 => (if t343 = true then (laws_FnExactMostConvex.j2 k bt333.2 bt333.1 (bt339.2 != x5)) else (laws_FnExactMostConvex.j2 k bt333.2 bt333.1 true))))) else (some false)))))
def laws_FnExactMostConvex.j2 : Nat → List (S37) → Int → Bool → Option (Bool)
 | 0, _, _, _ => none
 | k + 1, x7, x10, x87 => if x87 = true then (some false) else ((laws_heldPegS.f k x7 1).bind fun t344 => (if t344 < 0 then (some false) else (if t344 = x10 then (some true) else (some false))))
end
def laws_FnExactMostConvex.f (k : Nat) (l0 : List (S39)) : Option (Bool) := (laws_szPegS.f l0 1048576).bind fun t310 => (if t310 < 0 then (some true) else ((laws_toPegS.f k l0).bind fun t311 => ((spec_MostConvex.f k t311).bind fun bt314 => ((laws_toPegS.f k l0).bind fun t318 => ((impl_MostConvex.f k t318).bind fun bt321 => ((laws_eqPegS.f k bt321.1 bt314.1).bind fun t325 => (if t325 = true then (laws_FnExactMostConvex.j0 k l0 bt314.1 bt314.2 t318 bt321.1 bt321.2 (bt321.2 != bt314.2)) else (laws_FnExactMostConvex.j0 k l0 bt314.1 bt314.2 t318 bt321.1 bt321.2 true))))))))
theorem laws_FnExactMostConvex.mono_l : ∀ k, (∀ y0 y1 y2 y3 y4 y5 y6, LeO (laws_FnExactMostConvex.j0 k y0 y1 y2 y3 y4 y5 y6) (laws_FnExactMostConvex.j0 (k + 1) y0 y1 y2 y3 y4 y5 y6)) ∧ (∀ y0 y1 y2 y3 y4, LeO (laws_FnExactMostConvex.j1 k y0 y1 y2 y3 y4) (laws_FnExactMostConvex.j1 (k + 1) y0 y1 y2 y3 y4)) ∧ (∀ y0 y1 y2, LeO (laws_FnExactMostConvex.j2 k y0 y1 y2) (laws_FnExactMostConvex.j2 (k + 1) y0 y1 y2))
 | 0 => ⟨fun _ _ _ _ _ _ _ r h => by simp [laws_FnExactMostConvex.j0] at h, fun _ _ _ _ _ r h => by simp [laws_FnExactMostConvex.j1] at h, fun _ _ _ r h => by simp [laws_FnExactMostConvex.j2] at h⟩
 | k + 1 => by
  obtain ⟨ih0, ih1, ih2⟩ := laws_FnExactMostConvex.mono_l k
  refine ⟨?_, ?_, ?_⟩
  ·intro y0 y1 y2 y3 y4 y5 y6
   unfold laws_FnExactMostConvex.j0
   repeat' first
   | (with_reducible exact ih0 _ _ _ _ _ _ _)
   | (with_reducible exact ih1 _ _ _ _ _)
   | (with_reducible exact ih2 _ _ _)
   | (with_reducible exact impl_MostConvex.mono _ _)
   | (with_reducible exact laws_eqPegS.mono _ _ _)
   | (with_reducible exact laws_heldPegS.mono _ _ _)
   | (with_reducible exact laws_markPegS.mono _ _ _)
   | (with_reducible exact laws_toPegS.mono _ _)
   | (with_reducible exact spec_MostConvex.mono _ _)
   | (with_reducible exact LeO.refl _)
   | (with_reducible exact LeO.none _)
   | (with_reducible refine LeO.ite ?_ ?_)
   | (with_reducible refine LeO.bind ?_ (fun _ => ?_))
   | exact ih0 _ _ _ _ _ _ _
   | exact ih1 _ _ _ _ _
   | exact ih2 _ _ _
   | exact impl_MostConvex.mono _ _
   | exact laws_eqPegS.mono _ _ _
   | exact laws_heldPegS.mono _ _ _
   | exact laws_markPegS.mono _ _ _
   | exact laws_toPegS.mono _ _
   | exact spec_MostConvex.mono _ _
   | exact LeO.none _
   | refine LeO.ite ?_ ?_
   | refine LeO.bind ?_ (fun _ => ?_)
  ·intro y0 y1 y2 y3 y4
   unfold laws_FnExactMostConvex.j1
   repeat' first
   | (with_reducible exact ih0 _ _ _ _ _ _ _)
   | (with_reducible exact ih1 _ _ _ _ _)
   | (with_reducible exact ih2 _ _ _)
   | (with_reducible exact impl_MostConvex.mono _ _)
   | (with_reducible exact laws_eqPegS.mono _ _ _)
   | (with_reducible exact laws_heldPegS.mono _ _ _)
   | (with_reducible exact laws_markPegS.mono _ _ _)
   | (with_reducible exact laws_toPegS.mono _ _)
   | (with_reducible exact spec_MostConvex.mono _ _)
   | (with_reducible exact LeO.refl _)
   | (with_reducible exact LeO.none _)
   | (with_reducible refine LeO.ite ?_ ?_)
   | (with_reducible refine LeO.bind ?_ (fun _ => ?_))
   | exact ih0 _ _ _ _ _ _ _
   | exact ih1 _ _ _ _ _
   | exact ih2 _ _ _
   | exact impl_MostConvex.mono _ _
   | exact laws_eqPegS.mono _ _ _
   | exact laws_heldPegS.mono _ _ _
   | exact laws_markPegS.mono _ _ _
   | exact laws_toPegS.mono _ _
   | exact spec_MostConvex.mono _ _
   | exact LeO.none _
   | refine LeO.ite ?_ ?_
   | refine LeO.bind ?_ (fun _ => ?_)
  ·intro y0 y1 y2
   unfold laws_FnExactMostConvex.j2
   repeat' first
   | (with_reducible exact ih0 _ _ _ _ _ _ _)
   | (with_reducible exact ih1 _ _ _ _ _)
   | (with_reducible exact ih2 _ _ _)
   | (with_reducible exact impl_MostConvex.mono _ _)
   | (with_reducible exact laws_eqPegS.mono _ _ _)
   | (with_reducible exact laws_heldPegS.mono _ _ _)
   | (with_reducible exact laws_markPegS.mono _ _ _)
   | (with_reducible exact laws_toPegS.mono _ _)
   | (with_reducible exact spec_MostConvex.mono _ _)
   | (with_reducible exact LeO.refl _)
   | (with_reducible exact LeO.none _)
   | (with_reducible refine LeO.ite ?_ ?_)
   | (with_reducible refine LeO.bind ?_ (fun _ => ?_))
   | exact ih0 _ _ _ _ _ _ _
   | exact ih1 _ _ _ _ _
   | exact ih2 _ _ _
   | exact impl_MostConvex.mono _ _
   | exact laws_eqPegS.mono _ _ _
   | exact laws_heldPegS.mono _ _ _
   | exact laws_markPegS.mono _ _ _
   | exact laws_toPegS.mono _ _
   | exact spec_MostConvex.mono _ _
   | exact LeO.none _
   | refine LeO.ite ?_ ?_
   | refine LeO.bind ?_ (fun _ => ?_)
theorem laws_FnExactMostConvex.mono : ∀ a0 k, LeO (laws_FnExactMostConvex.f k a0) (laws_FnExactMostConvex.f (k + 1) a0) := by
 intro a0 k
 obtain ⟨ih0, ih1, ih2⟩ := laws_FnExactMostConvex.mono_l k
 unfold laws_FnExactMostConvex.f
 repeat' first
   | (with_reducible exact ih0 _ _ _ _ _ _ _)
   | (with_reducible exact ih1 _ _ _ _ _)
   | (with_reducible exact ih2 _ _ _)
   | (with_reducible exact impl_MostConvex.mono _ _)
   | (with_reducible exact laws_eqPegS.mono _ _ _)
   | (with_reducible exact laws_heldPegS.mono _ _ _)
   | (with_reducible exact laws_markPegS.mono _ _ _)
   | (with_reducible exact laws_toPegS.mono _ _)
   | (with_reducible exact spec_MostConvex.mono _ _)
   | (with_reducible exact LeO.refl _)
   | (with_reducible exact LeO.none _)
   | (with_reducible refine LeO.ite ?_ ?_)
   | (with_reducible refine LeO.bind ?_ (fun _ => ?_))
   | exact ih0 _ _ _ _ _ _ _
   | exact ih1 _ _ _ _ _
   | exact ih2 _ _ _
   | exact impl_MostConvex.mono _ _
   | exact laws_eqPegS.mono _ _ _
   | exact laws_heldPegS.mono _ _ _
   | exact laws_markPegS.mono _ _ _
   | exact laws_toPegS.mono _ _
   | exact spec_MostConvex.mono _ _
   | exact LeO.none _
   | refine LeO.ite ?_ ?_
   | refine LeO.bind ?_ (fun _ => ?_)
set_option maxHeartbeats 8000000 in
set_option maxRecDepth 100000 in
theorem laws_FnExactMostConvex.calls (k : Nat) (A0 : Option Addr) (c0 : Nat) (l0 : List (S39)) (r : Bool) (w : World) (hr0 : Kd.C k39 w A0 l0.length l0) (hc0 : l0.length ≤ c0) (hr_ : r = true) (h : laws_FnExactMostConvex.f k l0 = some r) :
  Calls Try.prog 4 #[.slice A0 l0.length c0] w fun e w' => e = .returned (.bool r) ∧ Below w.heap.size w w' := by
 have HR0 := Aside0.mk hr0
 have HC0 := Aside0.mk hc0
 clear hr0 hc0
 have HB := Aside0.mk (Below.refl w.heap.size w)
 have H : ((laws_szPegS.f l0 1048576).bind fun t310 => (if t310 < 0 then (some true) else ((laws_toPegS.f k l0).bind fun t311 => ((spec_MostConvex.f k t311).bind fun bt314 => ((laws_toPegS.f k l0).bind fun t318 => ((impl_MostConvex.f k t318).bind fun bt321 => ((laws_eqPegS.f k bt321.1 bt314.1).bind fun t325 => (if t325 = true then (laws_FnExactMostConvex.j0 k l0 bt314.1 bt314.2 t318 bt321.1 bt321.2 (bt321.2 != bt314.2)) else (laws_FnExactMostConvex.j0 k l0 bt314.1 bt314.2 t318 bt321.1 bt321.2 true))))))))) = some r := h
 clear h
 replace H := Option.bind_eq_some_iff.mp H
 obtain ⟨t310, A20, H⟩ := H
 replace H : (if t310 < 0 then (some true) else ((laws_toPegS.f k l0).bind fun t311 => ((spec_MostConvex.f k t311).bind fun bt314 => ((laws_toPegS.f k l0).bind fun t318 => ((impl_MostConvex.f k t318).bind fun bt321 => ((laws_eqPegS.f k bt321.1 bt314.1).bind fun t325 => (if t325 = true then (laws_FnExactMostConvex.j0 k l0 bt314.1 bt314.2 t318 bt321.1 bt321.2 (bt321.2 != bt314.2)) else (laws_FnExactMostConvex.j0 k l0 bt314.1 bt314.2 t318 bt321.1 bt321.2 true)))))))) = some r := H
 have A2 := Aside0.mk A20
 clear A20
 by_cases c3 : t310 < 0
 ·rw [if_pos c3] at H
  have c3b0 : decide (t310 < 0) = true := decide_eq_true c3
  clear c3
  obtain rfl := Option.some.inj H
  go_enter Try.func4, Try.ntmps4
  go_wp2_with (first | ((with_reducible refine gate_callee (f := 5) rfl ?_); refine goesL_ (some 16) rfl rfl Try.func5 (by kernel_rfl) rfl #[.slice A0 l0.length c0, .int .i64 1048576] rfl ga_ ?_; (with_reducible refine (laws_szPegS.calls _ _ l0 1048576 t310 _ ?side1 ?side2 A2.out).mono ?_); (case side1 => repeat (first | exact HR0.out | (with_reducible refine Kd.C_alloc ?_ _) | (with_reducible refine Kd.C_drewN ?_ _) | (with_reducible refine Kd.C_drew ?_))); (case side2 => exact HC0.out); rintro e w' ⟨rfl, ⟨nd, rfl⟩⟩; refine ⟨_, rfl, ?_⟩))
  go_ret
  exact ⟨by first | rfl | (simp [errW_none, errW_some] <;> rfl) | (simp [*, errW_none, errW_some] <;> rfl), hb_⟩
 ·rw [if_neg c3] at H
  have c3b0 : decide (t310 < 0) = false := decide_eq_false c3
  clear c3
  replace H := Option.bind_eq_some_iff.mp H
  obtain ⟨t311, A40, H⟩ := H
  replace H : ((spec_MostConvex.f k t311).bind fun bt314 => ((laws_toPegS.f k l0).bind fun t318 => ((impl_MostConvex.f k t318).bind fun bt321 => ((laws_eqPegS.f k bt321.1 bt314.1).bind fun t325 => (if t325 = true then (laws_FnExactMostConvex.j0 k l0 bt314.1 bt314.2 t318 bt321.1 bt321.2 (bt321.2 != bt314.2)) else (laws_FnExactMostConvex.j0 k l0 bt314.1 bt314.2 t318 bt321.1 bt321.2 true)))))) = some r := H
  have A4 := Aside0.mk A40
  clear A40
  replace H := Option.bind_eq_some_iff.mp H
  obtain ⟨⟨t314, t315⟩, A50, H⟩ := H
  replace H : ((laws_toPegS.f k l0).bind fun t318 => ((impl_MostConvex.f k t318).bind fun bt321 => ((laws_eqPegS.f k bt321.1 t314).bind fun t325 => (if t325 = true then (laws_FnExactMostConvex.j0 k l0 t314 t315 t318 bt321.1 bt321.2 (bt321.2 != t315)) else (laws_FnExactMostConvex.j0 k l0 t314 t315 t318 bt321.1 bt321.2 true))))) = some r := H
  have A5 := Aside0.mk A50
  clear A50
  replace H := Option.bind_eq_some_iff.mp H
  obtain ⟨t318, A60, H⟩ := H
  replace H : ((impl_MostConvex.f k t318).bind fun bt321 => ((laws_eqPegS.f k bt321.1 t314).bind fun t325 => (if t325 = true then (laws_FnExactMostConvex.j0 k l0 t314 t315 t318 bt321.1 bt321.2 (bt321.2 != t315)) else (laws_FnExactMostConvex.j0 k l0 t314 t315 t318 bt321.1 bt321.2 true)))) = some r := H
  have A6 := Aside0.mk A60
  clear A60
  replace H := Option.bind_eq_some_iff.mp H
  obtain ⟨⟨t321, t322⟩, A70, H⟩ := H
  replace H : ((laws_eqPegS.f k t321 t314).bind fun t325 => (if t325 = true then (laws_FnExactMostConvex.j0 k l0 t314 t315 t318 t321 t322 (t322 != t315)) else (laws_FnExactMostConvex.j0 k l0 t314 t315 t318 t321 t322 true))) = some r := H
  have A7 := Aside0.mk A70
  clear A70
  have HC8 := Aside0.mk H
  clear H
  go_enter Try.func4, Try.ntmps4
  go_upto_region 8 with (first | ((with_reducible refine gate_callee (f := 5) rfl ?_); refine goesL_ (some 16) rfl rfl Try.func5 (by kernel_rfl) rfl #[.slice A0 l0.length c0, .int .i64 1048576] rfl ga_ ?_; (with_reducible refine (laws_szPegS.calls _ _ l0 1048576 t310 _ ?side1 ?side2 A2.out).mono ?_); (case side1 => repeat (first | exact HR0.out | (with_reducible refine Kd.C_alloc ?_ _) | (with_reducible refine Kd.C_drewN ?_ _) | (with_reducible refine Kd.C_drew ?_))); (case side2 => exact HC0.out); rintro e w' ⟨rfl, ⟨nd, rfl⟩⟩; refine ⟨_, rfl, ?_⟩) | ((with_reducible refine gate_callee (f := 7) rfl ?_); refine goesL_ (some 21) rfl rfl Try.func7 (by kernel_rfl) rfl #[.slice A0 l0.length c0] rfl ga_ ?_; (with_reducible refine (laws_toPegS.calls k _ _ l0 t311 _ ?side1 ?side2 A4.out).mono ?_); (case side1 => repeat (first | exact HR0.out | (with_reducible refine Kd.C_alloc ?_ _) | (with_reducible refine Kd.C_drewN ?_ _) | (with_reducible refine Kd.C_drew ?_))); (case side2 => exact HC0.out); rintro e w9 ⟨v312, rfl, ho0, hb⟩; refine ⟨_, rfl, ?_⟩; have n0_ := Aside0.mk (Kd.R_lower ho0 (below_size (hb_))); have n1_ := Aside0.mk (below_step (hb_) hb); clear HB; have HO313 := n0_; have HB := n1_; clear n0_ n1_; (try clear hb); (try clear hb2); (try clear hk); (try clear hi); (try clear ho0); obtain ⟨Ao10, co10, eo10⟩ := Kd.R_slice HO313.out; subst eo10) | ((with_reducible refine gate_callee (f := 10) rfl ?_); refine goesL_ (some 22) rfl rfl Try.func10 (by kernel_rfl) rfl #[.slice Ao10 t311.length co10] rfl ga_ ?_; (with_reducible refine (spec_MostConvex.calls k _ _ t311 t314 t315 _ ?side1 ?side2 A5.out).mono ?_); (case side1 => repeat (first | exact (Kd.R_reads' HO313.out).2.2 | (with_reducible refine Kd.C_alloc ?_ _) | (with_reducible refine Kd.C_drewN ?_ _) | (with_reducible refine Kd.C_drew ?_))); (case side2 => exact (Kd.R_reads' HO313.out).2.1); rintro e w11 ⟨v316, rfl, ho0, hb⟩; refine ⟨_, rfl, ?_⟩; have n0_ := Aside0.mk (Kd.R_elder' (rk_ HO313.out) (Kd.R_base ho0) hb); have n1_ := Aside0.mk (Kd.R_lower (Kd.R_new' ho0 (Kd.R_lt (rk_ HO313.out))) (below_size (hb_))); have n2_ := Aside0.mk (below_step (hb_) hb); clear HO313; clear HB; have HO313 := n0_; have HO317 := n1_; have HB := n2_; clear n0_ n1_ n2_; (try clear hb); (try clear hb2); (try clear hk); (try clear hi); (try clear ho0)) | ((with_reducible refine gate_callee (f := 7) rfl ?_); refine goesL_ (some 26) rfl rfl Try.func7 (by kernel_rfl) rfl #[.slice A0 l0.length c0] rfl ga_ ?_; (with_reducible refine (laws_toPegS.calls k _ _ l0 t318 _ ?side1 ?side2 A6.out).mono ?_); (case side1 => repeat (first | exact (Kd.C_below HR0.out HB.out) | (with_reducible refine Kd.C_alloc ?_ _) | (with_reducible refine Kd.C_drewN ?_ _) | (with_reducible refine Kd.C_drew ?_))); (case side2 => exact HC0.out); rintro e w12 ⟨v319, rfl, ho0, hb⟩; refine ⟨_, rfl, ?_⟩; have n0_ := Aside0.mk (Kd.R_elder' (rk_ HO313.out) (Kd.R_base ho0) hb); have n1_ := Aside0.mk (Kd.R_elder' (rk_ HO317.out) (Kd.R_base ho0) hb); have n2_ := Aside0.mk (Kd.R_lower (Kd.R_new' (Kd.R_new' ho0 (Kd.R_lt (rk_ HO313.out))) (Kd.R_lt (rk_ HO317.out))) (below_size (hb_))); have n3_ := Aside0.mk (below_step (hb_) hb); clear HO313; clear HO317; clear HB; have HO313 := n0_; have HO317 := n1_; have HO320 := n2_; have HB := n3_; clear n0_ n1_ n2_ n3_; (try clear hb); (try clear hb2); (try clear hk); (try clear hi); (try clear ho0); obtain ⟨Ao13, co13, eo13⟩ := Kd.R_slice HO320.out; subst eo13) | ((with_reducible refine gate_callee (f := 11) rfl ?_); refine goesL_ (some 29) rfl rfl Try.func11 (by kernel_rfl) rfl #[.slice Ao13 t318.length co13] rfl ga_ ?_; (with_reducible refine (impl_MostConvex.calls k _ _ t318 t321 t322 _ ?side1 ?side2 A7.out).mono ?_); (case side1 => repeat (first | exact (Kd.R_reads' HO320.out).2.2 | (with_reducible refine Kd.C_alloc ?_ _) | (with_reducible refine Kd.C_drewN ?_ _) | (with_reducible refine Kd.C_drew ?_))); (case side2 => exact (Kd.R_reads' HO320.out).2.1); rintro e w14 ⟨v323, rfl, ho0, hb⟩; refine ⟨_, rfl, ?_⟩; have n0_ := Aside0.mk (Kd.R_elder' (rk_ HO313.out) (Kd.R_base ho0) hb); have n1_ := Aside0.mk (Kd.R_elder' (rk_ HO317.out) (Kd.R_base ho0) hb); have n2_ := Aside0.mk (Kd.R_elder' (rk_ HO320.out) (Kd.R_base ho0) hb); have n3_ := Aside0.mk (Kd.R_lower (Kd.R_new' (Kd.R_new' (Kd.R_new' ho0 (Kd.R_lt (rk_ HO313.out))) (Kd.R_lt (rk_ HO317.out))) (Kd.R_lt (rk_ HO320.out))) (below_size (hb_))); have n4_ := Aside0.mk (below_step (hb_) hb); clear HO313; clear HO317; clear HO320; clear HB; have HO313 := n0_; have HO317 := n1_; have HO320 := n2_; have HO324 := n3_; have HB := n4_; clear n0_ n1_ n2_ n3_ n4_; (try clear hb); (try clear hb2); (try clear hk); (try clear hi); (try clear ho0)))
  (try simp only [Act.put, List.setIfInBounds_toArray, List.set_cons_zero, List.set_cons_succ])
  go_cut [40] (fun v40 wc => ∃ (kq : Nat) (x40_7 : Bool), v40 = .bool x40_7 ∧ Aside0 (laws_FnExactMostConvex.j0 kq l0 t314 t315 t318 t321 t322 x40_7 = some r) ∧ Aside0 (kq ≤ k) ∧ Aside0 (Kd.R k37 37 wc w.heap.size (fun k_ => some k_ ≠ ((.slice Ao13 t318.length co13) : Value).ownBlock ∧ some k_ ≠ (v323 : Value).ownBlock) v316 t314) ∧ Aside0 (Kd.R k37 37 wc w.heap.size (fun k_ => some k_ ≠ (v316 : Value).ownBlock ∧ some k_ ≠ (v323 : Value).ownBlock) (.slice Ao13 t318.length co13) t318) ∧ Aside0 (Kd.R k37 37 wc w.heap.size (fun k_ => some k_ ≠ (v316 : Value).ownBlock ∧ some k_ ≠ ((.slice Ao13 t318.length co13) : Value).ownBlock) v323 t321) ∧ Aside0 (Below w.heap.size w wc))
  case first =>
   have H := HC8.out
   clear HC8
   replace H := Option.bind_eq_some_iff.mp H
   obtain ⟨t325, A150, H⟩ := H
   replace H : (if t325 = true then (laws_FnExactMostConvex.j0 k l0 t314 t315 t318 t321 t322 (t322 != t315)) else (laws_FnExactMostConvex.j0 k l0 t314 t315 t318 t321 t322 true)) = some r := H
   have A15 := Aside0.mk A150
   clear A150
   by_cases c16 : t325 = true
   ·subst c16
    have H1 : (laws_FnExactMostConvex.j0 k l0 t314 t315 t318 t321 t322 (t322 != t315)) = some r := by rw [if_pos rfl] at H; exact H
    clear H
    have H := H1
    clear H1
    have H' := Aside0.mk H
    clear H
    obtain ⟨Ao17, co17, eo17⟩ := Kd.R_slice HO324.out
    subst eo17
    obtain ⟨Ao18, co18, eo18⟩ := Kd.R_slice HO317.out
    subst eo18
    go_wp2_with (first | ((with_reducible refine gate_callee (f := 9) rfl ?_); refine goesL_ (some 34) rfl rfl Try.func9 (by kernel_rfl) rfl #[.slice Ao17 t321.length co17, .slice Ao18 t314.length co18] rfl ga_ ?_; (with_reducible refine (laws_eqPegS.calls k _ _ t321 _ _ t314 true _ ?side1 ?side2 ?side3 ?side4 A15.out).mono ?_); (case side1 => repeat (first | exact (Kd.R_reads' HO324.out).2.2 | (with_reducible refine Kd.C_alloc ?_ _) | (with_reducible refine Kd.C_drewN ?_ _) | (with_reducible refine Kd.C_drew ?_))); (case side2 => exact (Kd.R_reads' HO324.out).2.1); (case side3 => repeat (first | exact (Kd.R_reads' HO317.out).2.2 | (with_reducible refine Kd.C_alloc ?_ _) | (with_reducible refine Kd.C_drewN ?_ _) | (with_reducible refine Kd.C_drew ?_))); (case side4 => exact (Kd.R_reads' HO317.out).2.1); rintro e w19 ⟨rfl, hb⟩; refine ⟨_, rfl, ?_⟩; have n0_ := Aside0.mk (Kd.R_below (rk_ HO313.out) hb); have n1_ := Aside0.mk (Kd.R_below (rk_ HO317.out) hb); have n2_ := Aside0.mk (Kd.R_below (rk_ HO320.out) hb); have n3_ := Aside0.mk (Kd.R_below (rk_ HO324.out) hb); have n4_ := Aside0.mk (below_step (hb_) hb); clear HO313; clear HO317; clear HO320; clear HO324; clear HB; have HO313 := n0_; have HO317 := n1_; have HO320 := n2_; have HO324 := n3_; have HB := n4_; clear n0_ n1_ n2_ n3_ n4_; (try clear hb); (try clear hb2); (try clear hk); (try clear hi)))
    go_meet
    case rel => exact ⟨_, ((t322 != t315)), (by first | rfl | (simp; done) | (simp [*]; done)), H', ⟨by first | omega | exact Nat.le_refl _⟩, ⟨by (with_reducible repeat (first | apply Kd.R_alloc | apply Kd.R_drewN | apply Kd.R_drew)); exact Kd.R_mono HO317.out (fun _ hk => ⟨hk.1.2, hk.2⟩)⟩, ⟨by (with_reducible repeat (first | apply Kd.R_alloc | apply Kd.R_drewN | apply Kd.R_drew)); exact Kd.R_mono HO320.out (fun _ hk => ⟨hk.1.2, hk.2⟩)⟩, ⟨by (with_reducible repeat (first | apply Kd.R_alloc | apply Kd.R_drewN | apply Kd.R_drew)); exact Kd.R_mono HO324.out (fun _ hk => ⟨hk.1.2, hk.2⟩)⟩, ⟨hb_⟩⟩
   ·replace c16 := Bool.eq_false_iff.mpr c16
    subst c16
    have H1 : (laws_FnExactMostConvex.j0 k l0 t314 t315 t318 t321 t322 true) = some r := by rw [if_neg (show ¬ (false = true) by decide)] at H; exact H
    clear H
    have H := H1
    clear H1
    have H' := Aside0.mk H
    clear H
    obtain ⟨Ao20, co20, eo20⟩ := Kd.R_slice HO324.out
    subst eo20
    obtain ⟨Ao21, co21, eo21⟩ := Kd.R_slice HO317.out
    subst eo21
    go_wp2_with (first | ((with_reducible refine gate_callee (f := 9) rfl ?_); refine goesL_ (some 34) rfl rfl Try.func9 (by kernel_rfl) rfl #[.slice Ao20 t321.length co20, .slice Ao21 t314.length co21] rfl ga_ ?_; (with_reducible refine (laws_eqPegS.calls k _ _ t321 _ _ t314 false _ ?side1 ?side2 ?side3 ?side4 A15.out).mono ?_); (case side1 => repeat (first | exact (Kd.R_reads' HO324.out).2.2 | (with_reducible refine Kd.C_alloc ?_ _) | (with_reducible refine Kd.C_drewN ?_ _) | (with_reducible refine Kd.C_drew ?_))); (case side2 => exact (Kd.R_reads' HO324.out).2.1); (case side3 => repeat (first | exact (Kd.R_reads' HO317.out).2.2 | (with_reducible refine Kd.C_alloc ?_ _) | (with_reducible refine Kd.C_drewN ?_ _) | (with_reducible refine Kd.C_drew ?_))); (case side4 => exact (Kd.R_reads' HO317.out).2.1); rintro e w22 ⟨rfl, hb⟩; refine ⟨_, rfl, ?_⟩; have n0_ := Aside0.mk (Kd.R_below (rk_ HO313.out) hb); have n1_ := Aside0.mk (Kd.R_below (rk_ HO317.out) hb); have n2_ := Aside0.mk (Kd.R_below (rk_ HO320.out) hb); have n3_ := Aside0.mk (Kd.R_below (rk_ HO324.out) hb); have n4_ := Aside0.mk (below_step (hb_) hb); clear HO313; clear HO317; clear HO320; clear HO324; clear HB; have HO313 := n0_; have HO317 := n1_; have HO320 := n2_; have HO324 := n3_; have HB := n4_; clear n0_ n1_ n2_ n3_ n4_; (try clear hb); (try clear hb2); (try clear hk); (try clear hi)))
    go_meet
    case rel => exact ⟨_, (true), (by first | rfl | (simp; done) | (simp [*]; done)), H', ⟨by first | omega | exact Nat.le_refl _⟩, ⟨by (with_reducible repeat (first | apply Kd.R_alloc | apply Kd.R_drewN | apply Kd.R_drew)); exact Kd.R_mono HO317.out (fun _ hk => ⟨hk.1.2, hk.2⟩)⟩, ⟨by (with_reducible repeat (first | apply Kd.R_alloc | apply Kd.R_drewN | apply Kd.R_drew)); exact Kd.R_mono HO320.out (fun _ hk => ⟨hk.1.2, hk.2⟩)⟩, ⟨by (with_reducible repeat (first | apply Kd.R_alloc | apply Kd.R_drewN | apply Kd.R_drew)); exact Kd.R_mono HO324.out (fun _ hk => ⟨hk.1.2, hk.2⟩)⟩, ⟨hb_⟩⟩
  case rest =>
   clear HC8
   try clear c1
   try clear p2
   try clear c3
   try clear c3b0
   try clear c4
   try clear c5
   try clear c7
   try clear c9
   try clear c10
   try clear c11
   try clear c16
   obtain ⟨kq, x40_7, rfl, HA, HJ7, HO_4, HO_6, HO_7, HB⟩ := hcut
   cases kq with
   | zero => exact absurd HA.out (by simp [laws_FnExactMostConvex.j0])
   | succ kj7 =>
    have H := HA.out
    clear HA
    simp only [laws_FnExactMostConvex.j0] at H
    by_cases c23 : x40_7 = true
    ·subst c23
     have H1 : (some false) = some r := by rw [if_pos rfl] at H; exact H
     clear H
     have H := H1
     clear H1
     exact absurd (Option.some.inj H) (by rw [hr_]; decide)
    ·replace c23 := Bool.eq_false_iff.mpr c23
     subst c23
     have H1 : ((laws_toPegS.f kj7 l0).bind fun t326 => ((laws_eqPegS.f kj7 t318 t326).bind fun t329 => (if t329 = true then ((laws_markPegS.f kj7 t318 1).bind fun bt330 => (if bt330.1 < 0 then (laws_FnExactMostConvex.j1 kj7 l0 t314 t315 t321 true) else ((laws_eqPegS.f kj7 t321 t314).bind fun t332 => (if t332 = true then (laws_FnExactMostConvex.j1 kj7 l0 t314 t315 t321 (t322 != t315)) else (laws_FnExactMostConvex.j1 kj7 l0 t314 t315 t321 true))))) else (some false)))) = some r := by rw [if_neg (show ¬ (false = true) by decide)] at H; exact H
     clear H
     have H := H1
     clear H1
     replace H := Option.bind_eq_some_iff.mp H
     obtain ⟨t326, A240, H⟩ := H
     replace H : ((laws_eqPegS.f kj7 t318 t326).bind fun t329 => (if t329 = true then ((laws_markPegS.f kj7 t318 1).bind fun bt330 => (if bt330.1 < 0 then (laws_FnExactMostConvex.j1 kj7 l0 t314 t315 t321 true) else ((laws_eqPegS.f kj7 t321 t314).bind fun t332 => (if t332 = true then (laws_FnExactMostConvex.j1 kj7 l0 t314 t315 t321 (t322 != t315)) else (laws_FnExactMostConvex.j1 kj7 l0 t314 t315 t321 true))))) else (some false))) = some r := H
     have A24 := Aside0.mk A240
     clear A240
     replace H := Option.bind_eq_some_iff.mp H
     obtain ⟨t329, A250, H⟩ := H
     replace H : (if t329 = true then ((laws_markPegS.f kj7 t318 1).bind fun bt330 => (if bt330.1 < 0 then (laws_FnExactMostConvex.j1 kj7 l0 t314 t315 t321 true) else ((laws_eqPegS.f kj7 t321 t314).bind fun t332 => (if t332 = true then (laws_FnExactMostConvex.j1 kj7 l0 t314 t315 t321 (t322 != t315)) else (laws_FnExactMostConvex.j1 kj7 l0 t314 t315 t321 true))))) else (some false)) = some r := H
     have A25 := Aside0.mk A250
     clear A250
     by_cases c26 : t329 = true
     ·subst c26
      have H1 : ((laws_markPegS.f kj7 t318 1).bind fun bt330 => (if bt330.1 < 0 then (laws_FnExactMostConvex.j1 kj7 l0 t314 t315 t321 true) else ((laws_eqPegS.f kj7 t321 t314).bind fun t332 => (if t332 = true then (laws_FnExactMostConvex.j1 kj7 l0 t314 t315 t321 (t322 != t315)) else (laws_FnExactMostConvex.j1 kj7 l0 t314 t315 t321 true))))) = some r := by rw [if_pos rfl] at H; exact H
      clear H
      have H := H1
      clear H1
      replace H := Option.bind_eq_some_iff.mp H
      obtain ⟨⟨t330, t331⟩, A270, H⟩ := H
      replace H : (if t330 < 0 then (laws_FnExactMostConvex.j1 kj7 l0 t314 t315 t321 true) else ((laws_eqPegS.f kj7 t321 t314).bind fun t332 => (if t332 = true then (laws_FnExactMostConvex.j1 kj7 l0 t314 t315 t321 (t322 != t315)) else (laws_FnExactMostConvex.j1 kj7 l0 t314 t315 t321 true)))) = some r := H
      have A27 := Aside0.mk A270
      clear A270
      have HC28 := Aside0.mk H
      clear H
      go_upto_region 14 with (first | ((with_reducible refine gate_callee (f := 7) rfl ?_); refine goesL_ (some 43) rfl rfl Try.func7 (by kernel_rfl) rfl #[.slice A0 l0.length c0] rfl ga_ ?_; (with_reducible refine (laws_toPegS.calls kj7 _ _ l0 t326 _ ?side1 ?side2 A24.out).mono ?_); (case side1 => repeat (first | exact (Kd.C_below HR0.out HB.out) | (with_reducible refine Kd.C_alloc ?_ _) | (with_reducible refine Kd.C_drewN ?_ _) | (with_reducible refine Kd.C_drew ?_))); (case side2 => exact HC0.out); rintro e w29 ⟨v327, rfl, ho0, hb⟩; refine ⟨_, rfl, ?_⟩; have n0_ := Aside0.mk (Kd.R_elder' (rk_ HO_4.out) (Kd.R_base ho0) hb); have n1_ := Aside0.mk (Kd.R_elder' (rk_ HO_6.out) (Kd.R_base ho0) hb); have n2_ := Aside0.mk (Kd.R_elder' (rk_ HO_7.out) (Kd.R_base ho0) hb); have n3_ := Aside0.mk (Kd.R_lower (Kd.R_new' (Kd.R_new' (Kd.R_new' ho0 (Kd.R_lt (rk_ HO_4.out))) (Kd.R_lt (rk_ HO_6.out))) (Kd.R_lt (rk_ HO_7.out))) (below_size (hb_))); have n4_ := Aside0.mk (below_step (hb_) hb); clear HO_4; clear HO_6; clear HO_7; clear HB; have HO_4 := n0_; have HO_6 := n1_; have HO_7 := n2_; have HO328 := n3_; have HB := n4_; clear n0_ n1_ n2_ n3_ n4_; (try clear hb); (try clear hb2); (try clear hk); (try clear hi); (try clear ho0); obtain ⟨Ao30, co30, eo30⟩ := Kd.R_slice HO328.out; subst eo30) | ((with_reducible refine gate_callee (f := 9) rfl ?_); refine goesL_ (some 44) rfl rfl Try.func9 (by kernel_rfl) rfl #[.slice Ao13 t318.length co13, .slice Ao30 t326.length co30] rfl ga_ ?_; (with_reducible refine (laws_eqPegS.calls kj7 _ _ t318 _ _ t326 true _ ?side1 ?side2 ?side3 ?side4 A25.out).mono ?_); (case side1 => repeat (first | exact (Kd.R_reads' HO_6.out).2.2 | (with_reducible refine Kd.C_alloc ?_ _) | (with_reducible refine Kd.C_drewN ?_ _) | (with_reducible refine Kd.C_drew ?_))); (case side2 => exact (Kd.R_reads' HO_6.out).2.1); (case side3 => repeat (first | exact (Kd.R_reads' HO328.out).2.2 | (with_reducible refine Kd.C_alloc ?_ _) | (with_reducible refine Kd.C_drewN ?_ _) | (with_reducible refine Kd.C_drew ?_))); (case side4 => exact (Kd.R_reads' HO328.out).2.1); rintro e w31 ⟨rfl, hb⟩; refine ⟨_, rfl, ?_⟩; have n0_ := Aside0.mk (Kd.R_below (rk_ HO_4.out) hb); have n1_ := Aside0.mk (Kd.R_below (rk_ HO_6.out) hb); have n2_ := Aside0.mk (Kd.R_below (rk_ HO_7.out) hb); have n3_ := Aside0.mk (Kd.R_below (rk_ HO328.out) hb); have n4_ := Aside0.mk (below_step (hb_) hb); clear HO_4; clear HO_6; clear HO_7; clear HO328; clear HB; have HO_4 := n0_; have HO_6 := n1_; have HO_7 := n2_; have HO328 := n3_; have HB := n4_; clear n0_ n1_ n2_ n3_ n4_; (try clear hb); (try clear hb2); (try clear hk); (try clear hi)) | ((with_reducible refine gate_callee (f := 12) rfl ?_); refine goesL_ (some 48) rfl rfl Try.func12 (by kernel_rfl) rfl #[.slice Ao13 t318.length co13, .int .i64 1] rfl ga_ ?_; (with_reducible refine (laws_markPegS.calls kj7 (fun k_ => some k_ = (.slice Ao13 t318.length co13 : Value).ownBlock) (.slice Ao13 t318.length co13) t318 1 t330 t331 w _ ?side1 ?side2 A27.out).mono ?_); (case side1 => repeat (first | (with_reducible first | exact HB.out | apply below_alloc | apply pw_below_drewN | apply below_drew1) | exact HB.out)); (case side2 => exact Kd.R_tight rfl HO_6.out); rintro e w32 ⟨rfl, hy0, hb, hkp⟩; refine ⟨_, rfl, ?_⟩; have n0_ := Aside0.mk (Kd.R_mono (ok' := fun k_ => some k_ ≠ (.slice Ao13 t318.length co13 : Value).ownBlock ∧ some k_ ≠ (v323 : Value).ownBlock ∧ some k_ ≠ (.slice Ao30 t326.length co30 : Value).ownBlock) (Kd.R_keptB (HO_4.out) hkp (fun k_ hk_ hs_ => (hk_.1.1) hs_)) (fun k_ hk_ => ⟨hk_.1.1.1, hk_.1.1.2, hk_.1.2⟩)); have n1_ := Aside0.mk (Kd.R_reok rfl hy0 (fun k_ e_ => HO_6.out.1 k_ e_)); have n2_ := Aside0.mk (Kd.R_mono (ok' := fun k_ => some k_ ≠ (v316 : Value).ownBlock ∧ some k_ ≠ (.slice Ao13 t318.length co13 : Value).ownBlock ∧ some k_ ≠ (.slice Ao30 t326.length co30 : Value).ownBlock) (Kd.R_keptB (HO_7.out) hkp (fun k_ hk_ hs_ => (hk_.1.2) hs_)) (fun k_ hk_ => ⟨hk_.1.1.1, hk_.1.1.2, hk_.1.2⟩)); have n3_ := Aside0.mk (Kd.R_mono (ok' := fun k_ => some k_ ≠ (v316 : Value).ownBlock ∧ some k_ ≠ (.slice Ao13 t318.length co13 : Value).ownBlock ∧ some k_ ≠ (v323 : Value).ownBlock) (Kd.R_keptB (HO328.out) hkp (fun k_ hk_ hs_ => (hk_.1.2) hs_)) (fun k_ hk_ => ⟨hk_.1.1.1.2, hk_.1.1.2, hk_.1.2⟩)); have n4_ := Aside0.mk (hb); clear HO_4; clear HO_6; clear HO_7; clear HO328; clear HB; have HO_4 := n0_; have HO_6 := n1_; have HO_7 := n2_; have HO328 := n3_; have HB := n4_; clear n0_ n1_ n2_ n3_ n4_; (try clear hb); (try clear hkp); (try clear hy0)))
      (try simp only [Act.put, List.setIfInBounds_toArray, List.set_cons_zero, List.set_cons_succ])
      go_cut [61] (fun v61 wc => ∃ (kq : Nat) (x61_27 : Bool), v61 = .bool x61_27 ∧ Aside0 (laws_FnExactMostConvex.j1 kq l0 t314 t315 t321 x61_27 = some r) ∧ Aside0 (kq ≤ kj7) ∧ Aside0 (Kd.R k37 37 wc w.heap.size (fun k_ => some k_ ≠ (v323 : Value).ownBlock) v316 t314) ∧ Aside0 (Kd.R k37 37 wc w.heap.size (fun k_ => some k_ ≠ (v316 : Value).ownBlock) v323 t321) ∧ Aside0 (Below w.heap.size w wc))
      case first =>
       have H := HC28.out
       clear HC28
       by_cases c33 : t330 < 0
       ·rw [if_pos c33] at H
        have c33b0 : decide (t330 < 0) = true := decide_eq_true c33
        clear c33
        (first | rw [c33b0] | (simp only [i64_w, i32_w]; rw [c33b0]) | skip)
        have H' := Aside0.mk H
        clear H
        go_wp2
        go_meet
        case rel => exact ⟨_, (true), (by first | rfl | (simp; done) | (simp [*]; done)), H', ⟨by have := HJ7.out; first | omega | exact Nat.le_refl _⟩, ⟨by (with_reducible repeat (first | apply Kd.R_alloc | apply Kd.R_drewN | apply Kd.R_drew)); exact Kd.R_mono HO_4.out (fun _ hk => hk.2.1)⟩, ⟨by (with_reducible repeat (first | apply Kd.R_alloc | apply Kd.R_drewN | apply Kd.R_drew)); exact Kd.R_mono HO_7.out (fun _ hk => hk.1)⟩, ⟨hb_⟩⟩
       ·rw [if_neg c33] at H
        have c33b0 : decide (t330 < 0) = false := decide_eq_false c33
        clear c33
        (first | rw [c33b0] | (simp only [i64_w, i32_w]; rw [c33b0]) | skip)
        replace H := Option.bind_eq_some_iff.mp H
        obtain ⟨t332, A340, H⟩ := H
        replace H : (if t332 = true then (laws_FnExactMostConvex.j1 kj7 l0 t314 t315 t321 (t322 != t315)) else (laws_FnExactMostConvex.j1 kj7 l0 t314 t315 t321 true)) = some r := H
        have A34 := Aside0.mk A340
        clear A340
        by_cases c35 : t332 = true
        ·subst c35
         have H1 : (laws_FnExactMostConvex.j1 kj7 l0 t314 t315 t321 (t322 != t315)) = some r := by rw [if_pos rfl] at H; exact H
         clear H
         have H := H1
         clear H1
         have H' := Aside0.mk H
         clear H
         obtain ⟨Ao36, co36, eo36⟩ := Kd.R_slice HO_7.out
         subst eo36
         obtain ⟨Ao37, co37, eo37⟩ := Kd.R_slice HO_4.out
         subst eo37
         go_wp2_with (first | (go_at_call 9; (with_reducible refine (laws_eqPegS.calls kj7 _ _ t321 _ _ t314 true _ ?side1 ?side2 ?side3 ?side4 A34.out).mono ?_); (case side1 => repeat (first | exact (Kd.R_reads' HO_7.out).2.2 | (with_reducible refine Kd.C_alloc ?_ _) | (with_reducible refine Kd.C_drewN ?_ _) | (with_reducible refine Kd.C_drew ?_))); (case side2 => exact (Kd.R_reads' HO_7.out).2.1); (case side3 => repeat (first | exact (Kd.R_reads' HO_4.out).2.2 | (with_reducible refine Kd.C_alloc ?_ _) | (with_reducible refine Kd.C_drewN ?_ _) | (with_reducible refine Kd.C_drew ?_))); (case side4 => exact (Kd.R_reads' HO_4.out).2.1); rintro e w38 ⟨rfl, hb⟩; have n0_ := Aside0.mk (Kd.R_below (rk_ HO_4.out) hb); have n1_ := Aside0.mk (Kd.R_below (rk_ HO_6.out) hb); have n2_ := Aside0.mk (Kd.R_below (rk_ HO_7.out) hb); have n3_ := Aside0.mk (Kd.R_below (rk_ HO328.out) hb); have n4_ := Aside0.mk (below_step (hb_) hb); clear HO_4; clear HO_6; clear HO_7; clear HO328; clear HB; have HO_4 := n0_; have HO_6 := n1_; have HO_7 := n2_; have HO328 := n3_; have HB := n4_; clear n0_ n1_ n2_ n3_ n4_; (try clear hb); (try clear hb2); (try clear hk); (try clear hi)))
         go_meet
         case rel => exact ⟨_, ((t322 != t315)), (by first | rfl | (simp; done) | (simp [*]; done)), H', ⟨by have := HJ7.out; first | omega | exact Nat.le_refl _⟩, ⟨by (with_reducible repeat (first | apply Kd.R_alloc | apply Kd.R_drewN | apply Kd.R_drew)); exact Kd.R_mono HO_4.out (fun _ hk => hk.2.1)⟩, ⟨by (with_reducible repeat (first | apply Kd.R_alloc | apply Kd.R_drewN | apply Kd.R_drew)); exact Kd.R_mono HO_7.out (fun _ hk => hk.1)⟩, ⟨hb_⟩⟩
        ·replace c35 := Bool.eq_false_iff.mpr c35
         subst c35
         have H1 : (laws_FnExactMostConvex.j1 kj7 l0 t314 t315 t321 true) = some r := by rw [if_neg (show ¬ (false = true) by decide)] at H; exact H
         clear H
         have H := H1
         clear H1
         have H' := Aside0.mk H
         clear H
         obtain ⟨Ao39, co39, eo39⟩ := Kd.R_slice HO_7.out
         subst eo39
         obtain ⟨Ao40, co40, eo40⟩ := Kd.R_slice HO_4.out
         subst eo40
         go_wp2_with (first | (go_at_call 9; (with_reducible refine (laws_eqPegS.calls kj7 _ _ t321 _ _ t314 false _ ?side1 ?side2 ?side3 ?side4 A34.out).mono ?_); (case side1 => repeat (first | exact (Kd.R_reads' HO_7.out).2.2 | (with_reducible refine Kd.C_alloc ?_ _) | (with_reducible refine Kd.C_drewN ?_ _) | (with_reducible refine Kd.C_drew ?_))); (case side2 => exact (Kd.R_reads' HO_7.out).2.1); (case side3 => repeat (first | exact (Kd.R_reads' HO_4.out).2.2 | (with_reducible refine Kd.C_alloc ?_ _) | (with_reducible refine Kd.C_drewN ?_ _) | (with_reducible refine Kd.C_drew ?_))); (case side4 => exact (Kd.R_reads' HO_4.out).2.1); rintro e w41 ⟨rfl, hb⟩; have n0_ := Aside0.mk (Kd.R_below (rk_ HO_4.out) hb); have n1_ := Aside0.mk (Kd.R_below (rk_ HO_6.out) hb); have n2_ := Aside0.mk (Kd.R_below (rk_ HO_7.out) hb); have n3_ := Aside0.mk (Kd.R_below (rk_ HO328.out) hb); have n4_ := Aside0.mk (below_step (hb_) hb); clear HO_4; clear HO_6; clear HO_7; clear HO328; clear HB; have HO_4 := n0_; have HO_6 := n1_; have HO_7 := n2_; have HO328 := n3_; have HB := n4_; clear n0_ n1_ n2_ n3_ n4_; (try clear hb); (try clear hb2); (try clear hk); (try clear hi)))
         go_meet
         case rel => exact ⟨_, (true), (by first | rfl | (simp; done) | (simp [*]; done)), H', ⟨by have := HJ7.out; first | omega | exact Nat.le_refl _⟩, ⟨by (with_reducible repeat (first | apply Kd.R_alloc | apply Kd.R_drewN | apply Kd.R_drew)); exact Kd.R_mono HO_4.out (fun _ hk => hk.2.1)⟩, ⟨by (with_reducible repeat (first | apply Kd.R_alloc | apply Kd.R_drewN | apply Kd.R_drew)); exact Kd.R_mono HO_7.out (fun _ hk => hk.1)⟩, ⟨hb_⟩⟩
      case rest =>
       clear HC28
       try clear c1
       try clear c2
       try clear p2
       try clear c3
       try clear c3b0
       try clear c4
       try clear c5
       try clear c7
       try clear c9
       try clear c10
       try clear c11
       try clear c12
       try clear c16
       try clear c23
       try clear c26
       try clear c33
       try clear c33b0
       try clear c35
       try clear p2
       obtain ⟨kq, x61_27, rfl, HA, HJ27, HO_4, HO_7, HB⟩ := hcut
       cases kq with
       | zero => exact absurd HA.out (by simp [laws_FnExactMostConvex.j1])
       | succ kj27 =>
        have H := HA.out
        clear HA
        simp only [laws_FnExactMostConvex.j1] at H
        by_cases c42 : x61_27 = true
        ·subst c42
         have H1 : (some false) = some r := by rw [if_pos rfl] at H; exact H
         clear H
         have H := H1
         clear H1
         exact absurd (Option.some.inj H) (by rw [hr_]; decide)
        ·replace c42 := Bool.eq_false_iff.mpr c42
         subst c42
         have H1 : ((laws_markPegS.f kj27 t321 1).bind fun bt333 => ((laws_heldPegS.f kj27 bt333.2 1).bind fun t335 => (if t335 < 0 then (some false) else (if t335 = bt333.1 then ((laws_toPegS.f kj27 l0).bind fun t336 => ((impl_MostConvex.f kj27 t336).bind fun bt339 => ((laws_eqPegS.f kj27 bt339.1 t314).bind fun t343 => (if t343 = true then (laws_FnExactMostConvex.j2 kj27 bt333.2 bt333.1 (bt339.2 != t315)) else (laws_FnExactMostConvex.j2 kj27 bt333.2 bt333.1 true))))) else (some false))))) = some r := by rw [if_neg (show ¬ (false = true) by decide)] at H; exact H
         clear H
         have H := H1
         clear H1
         replace H := Option.bind_eq_some_iff.mp H
         obtain ⟨⟨t333, t334⟩, A430, H⟩ := H
         replace H : ((laws_heldPegS.f kj27 t334 1).bind fun t335 => (if t335 < 0 then (some false) else (if t335 = t333 then ((laws_toPegS.f kj27 l0).bind fun t336 => ((impl_MostConvex.f kj27 t336).bind fun bt339 => ((laws_eqPegS.f kj27 bt339.1 t314).bind fun t343 => (if t343 = true then (laws_FnExactMostConvex.j2 kj27 t334 t333 (bt339.2 != t315)) else (laws_FnExactMostConvex.j2 kj27 t334 t333 true))))) else (some false)))) = some r := H
         have A43 := Aside0.mk A430
         clear A430
         replace H := Option.bind_eq_some_iff.mp H
         obtain ⟨t335, A440, H⟩ := H
         replace H : (if t335 < 0 then (some false) else (if t335 = t333 then ((laws_toPegS.f kj27 l0).bind fun t336 => ((impl_MostConvex.f kj27 t336).bind fun bt339 => ((laws_eqPegS.f kj27 bt339.1 t314).bind fun t343 => (if t343 = true then (laws_FnExactMostConvex.j2 kj27 t334 t333 (bt339.2 != t315)) else (laws_FnExactMostConvex.j2 kj27 t334 t333 true))))) else (some false))) = some r := H
         have A44 := Aside0.mk A440
         clear A440
         by_cases c45 : t335 < 0
         ·rw [if_pos c45] at H
          have c45b0 : decide (t335 < 0) = true := decide_eq_true c45
          clear c45
          exact absurd (Option.some.inj H) (by rw [hr_]; decide)
         ·rw [if_neg c45] at H
          have c45b0 : decide (t335 < 0) = false := decide_eq_false c45
          clear c45
          by_cases c46 : t335 = t333
          ·rw [if_pos c46] at H
           have c46b0 : (t335 == t333) = true := beq_iff_eq.mpr c46
           have c46b1 : (t335 != t333) = false := bne_eq_false_iff_eq.mpr c46
           clear c46
           replace H := Option.bind_eq_some_iff.mp H
           obtain ⟨t336, A470, H⟩ := H
           replace H : ((impl_MostConvex.f kj27 t336).bind fun bt339 => ((laws_eqPegS.f kj27 bt339.1 t314).bind fun t343 => (if t343 = true then (laws_FnExactMostConvex.j2 kj27 t334 t333 (bt339.2 != t315)) else (laws_FnExactMostConvex.j2 kj27 t334 t333 true)))) = some r := H
           have A47 := Aside0.mk A470
           clear A470
           replace H := Option.bind_eq_some_iff.mp H
           obtain ⟨⟨t339, t340⟩, A480, H⟩ := H
           replace H : ((laws_eqPegS.f kj27 t339 t314).bind fun t343 => (if t343 = true then (laws_FnExactMostConvex.j2 kj27 t334 t333 (t340 != t315)) else (laws_FnExactMostConvex.j2 kj27 t334 t333 true))) = some r := H
           have A48 := Aside0.mk A480
           clear A480
           have HC49 := Aside0.mk H
           clear H
           obtain ⟨Ao50, co50, eo50⟩ := Kd.R_slice HO_7.out
           subst eo50
           go_upto_region 25 with (first | ((with_reducible refine gate_callee (f := 12) rfl ?_); refine goesL_ (some 64) rfl rfl Try.func12 (by kernel_rfl) rfl #[.slice Ao50 t321.length co50, .int .i64 1] rfl ga_ ?_; (with_reducible refine (laws_markPegS.calls kj27 (fun k_ => some k_ = (.slice Ao50 t321.length co50 : Value).ownBlock) (.slice Ao50 t321.length co50) t321 1 t333 t334 w _ ?side1 ?side2 A43.out).mono ?_); (case side1 => repeat (first | (with_reducible first | exact HB.out | apply below_alloc | apply pw_below_drewN | apply below_drew1) | exact HB.out)); (case side2 => exact Kd.R_tight rfl HO_7.out); rintro e w51 ⟨rfl, hy0, hb, hkp⟩; refine ⟨_, rfl, ?_⟩; have n0_ := Aside0.mk (Kd.R_mono (ok' := fun k_ => some k_ ≠ (.slice Ao50 t321.length co50 : Value).ownBlock) (Kd.R_keptB (HO_4.out) hkp (fun k_ hk_ hs_ => (hk_) hs_)) (fun k_ hk_ => hk_.1)); have n1_ := Aside0.mk (Kd.R_reok rfl hy0 (fun k_ e_ => HO_7.out.1 k_ e_)); have n2_ := Aside0.mk (hb); clear HO_4; clear HO_7; clear HB; have HO_4 := n0_; have HO_7 := n1_; have HB := n2_; clear n0_ n1_ n2_; (try clear hb); (try clear hkp); (try clear hy0)) | ((with_reducible refine gate_callee (f := 13) rfl ?_); refine goesL_ (some 67) rfl rfl Try.func13 (by kernel_rfl) rfl #[.slice Ao50 t334.length co50, .int .i64 1] rfl (by (try simp only [List.map_toArray, List.map_cons, List.map_nil]); first | done | (rw [show t334.length = t321.length from (Kd.R_reads' HO_7.out).1.symm] <;> rfl) | rfl | (simp only [List.length_drop, List.length_take]; rfl)) ?_; (with_reducible refine (laws_heldPegS.calls kj27 _ _ t334 1 t335 _ ?side1 ?side2 A44.out).mono ?_); (case side1 => repeat (first | exact (Kd.R_reads' HO_7.out).2.2 | (with_reducible refine Kd.C_alloc ?_ _) | (with_reducible refine Kd.C_drewN ?_ _) | (with_reducible refine Kd.C_drew ?_))); (case side2 => rw [show t334.length = t321.length from (Kd.R_reads' HO_7.out).1.symm]; exact (Kd.R_reads' HO_7.out).2.1); rintro e w' ⟨rfl, ⟨nd, rfl⟩⟩; refine ⟨_, rfl, ?_⟩) | ((with_reducible refine gate_callee (f := 7) rfl ?_); refine goesL_ (some 75) rfl rfl Try.func7 (by kernel_rfl) rfl #[.slice A0 l0.length c0] rfl ga_ ?_; (with_reducible refine (laws_toPegS.calls kj27 _ _ l0 t336 _ ?side1 ?side2 A47.out).mono ?_); (case side1 => repeat (first | exact (Kd.C_below HR0.out (hb_)) | (with_reducible refine Kd.C_alloc ?_ _) | (with_reducible refine Kd.C_drewN ?_ _) | (with_reducible refine Kd.C_drew ?_))); (case side2 => exact HC0.out); rintro e w52 ⟨v337, rfl, ho0, hb⟩; refine ⟨_, rfl, ?_⟩; have n0_ := Aside0.mk (Kd.R_elder' (rk_ HO_4.out) (Kd.R_base ho0) hb); have n1_ := Aside0.mk (Kd.R_elder' (rk_ HO_7.out) (Kd.R_base ho0) hb); have n2_ := Aside0.mk (Kd.R_lower (Kd.R_new' (Kd.R_new' ho0 (Kd.R_lt (rk_ HO_4.out))) (Kd.R_lt (rk_ HO_7.out))) (below_size (hb_))); have n3_ := Aside0.mk (below_step (hb_) hb); clear HO_4; clear HO_7; clear HB; have HO_4 := n0_; have HO_7 := n1_; have HO338 := n2_; have HB := n3_; clear n0_ n1_ n2_ n3_; (try clear hb); (try clear hb2); (try clear hk); (try clear hi); (try clear ho0); obtain ⟨Ao53, co53, eo53⟩ := Kd.R_slice HO338.out; subst eo53) | ((with_reducible refine gate_callee (f := 11) rfl ?_); refine goesL_ (some 76) rfl rfl Try.func11 (by kernel_rfl) rfl #[.slice Ao53 t336.length co53] rfl ga_ ?_; (with_reducible refine (impl_MostConvex.calls kj27 _ _ t336 t339 t340 _ ?side1 ?side2 A48.out).mono ?_); (case side1 => repeat (first | exact (Kd.R_reads' HO338.out).2.2 | (with_reducible refine Kd.C_alloc ?_ _) | (with_reducible refine Kd.C_drewN ?_ _) | (with_reducible refine Kd.C_drew ?_))); (case side2 => exact (Kd.R_reads' HO338.out).2.1); rintro e w54 ⟨v341, rfl, ho0, hb⟩; refine ⟨_, rfl, ?_⟩; have n0_ := Aside0.mk (Kd.R_elder' (rk_ HO_4.out) (Kd.R_base ho0) hb); have n1_ := Aside0.mk (Kd.R_elder' (rk_ HO_7.out) (Kd.R_base ho0) hb); have n2_ := Aside0.mk (Kd.R_elder' (rk_ HO338.out) (Kd.R_base ho0) hb); have n3_ := Aside0.mk (Kd.R_lower (Kd.R_new' (Kd.R_new' (Kd.R_new' ho0 (Kd.R_lt (rk_ HO_4.out))) (Kd.R_lt (rk_ HO_7.out))) (Kd.R_lt (rk_ HO338.out))) (below_size (hb_))); have n4_ := Aside0.mk (below_step (hb_) hb); clear HO_4; clear HO_7; clear HO338; clear HB; have HO_4 := n0_; have HO_7 := n1_; have HO338 := n2_; have HO342 := n3_; have HB := n4_; clear n0_ n1_ n2_ n3_ n4_; (try clear hb); (try clear hb2); (try clear hk); (try clear hi); (try clear ho0)))
           (try simp only [Act.put, List.setIfInBounds_toArray, List.set_cons_zero, List.set_cons_succ])
           go_cut [87] (fun v87 wc => ∃ (kq : Nat) (x87_48 : Bool), v87 = .bool x87_48 ∧ Aside0 (laws_FnExactMostConvex.j2 kq t334 t333 x87_48 = some r) ∧ Aside0 (kq ≤ kj27) ∧ Aside0 (Kd.R k37 37 wc w.heap.size (fun _ => True) (.slice Ao50 t321.length co50) t334) ∧ Aside0 (Below w.heap.size w wc))
           case first =>
            have H := HC49.out
            clear HC49
            replace H := Option.bind_eq_some_iff.mp H
            obtain ⟨t343, A550, H⟩ := H
            replace H : (if t343 = true then (laws_FnExactMostConvex.j2 kj27 t334 t333 (t340 != t315)) else (laws_FnExactMostConvex.j2 kj27 t334 t333 true)) = some r := H
            have A55 := Aside0.mk A550
            clear A550
            by_cases c56 : t343 = true
            ·subst c56
             have H1 : (laws_FnExactMostConvex.j2 kj27 t334 t333 (t340 != t315)) = some r := by rw [if_pos rfl] at H; exact H
             clear H
             have H := H1
             clear H1
             have H' := Aside0.mk H
             clear H
             obtain ⟨Ao57, co57, eo57⟩ := Kd.R_slice HO342.out
             subst eo57
             obtain ⟨Ao58, co58, eo58⟩ := Kd.R_slice HO_4.out
             subst eo58
             go_wp2_with (first | ((with_reducible refine gate_callee (f := 9) rfl ?_); refine goesL_ (some 81) rfl rfl Try.func9 (by kernel_rfl) rfl #[.slice Ao57 t339.length co57, .slice Ao58 t314.length co58] rfl ga_ ?_; (with_reducible refine (laws_eqPegS.calls kj27 _ _ t339 _ _ t314 true _ ?side1 ?side2 ?side3 ?side4 A55.out).mono ?_); (case side1 => repeat (first | exact (Kd.R_reads' HO342.out).2.2 | (with_reducible refine Kd.C_alloc ?_ _) | (with_reducible refine Kd.C_drewN ?_ _) | (with_reducible refine Kd.C_drew ?_))); (case side2 => exact (Kd.R_reads' HO342.out).2.1); (case side3 => repeat (first | exact (Kd.R_reads' HO_4.out).2.2 | (with_reducible refine Kd.C_alloc ?_ _) | (with_reducible refine Kd.C_drewN ?_ _) | (with_reducible refine Kd.C_drew ?_))); (case side4 => exact (Kd.R_reads' HO_4.out).2.1); rintro e w59 ⟨rfl, hb⟩; refine ⟨_, rfl, ?_⟩; have n0_ := Aside0.mk (Kd.R_below (rk_ HO_4.out) hb); have n1_ := Aside0.mk (Kd.R_below (rk_ HO_7.out) hb); have n2_ := Aside0.mk (Kd.R_below (rk_ HO338.out) hb); have n3_ := Aside0.mk (Kd.R_below (rk_ HO342.out) hb); have n4_ := Aside0.mk (below_step (hb_) hb); clear HO_4; clear HO_7; clear HO338; clear HO342; clear HB; have HO_4 := n0_; have HO_7 := n1_; have HO338 := n2_; have HO342 := n3_; have HB := n4_; clear n0_ n1_ n2_ n3_ n4_; (try clear hb); (try clear hb2); (try clear hk); (try clear hi)))
             go_meet
             case rel => exact ⟨_, ((t340 != t315)), (by first | rfl | (simp; done) | (simp [*]; done)), H', ⟨by have := HJ7.out; have := HJ27.out; first | omega | exact Nat.le_refl _⟩, ⟨by (with_reducible repeat (first | apply Kd.R_alloc | apply Kd.R_drewN | apply Kd.R_drew)); exact Kd.R_mono HO_7.out (fun _ hk => trivial)⟩, ⟨hb_⟩⟩
            ·replace c56 := Bool.eq_false_iff.mpr c56
             subst c56
             have H1 : (laws_FnExactMostConvex.j2 kj27 t334 t333 true) = some r := by rw [if_neg (show ¬ (false = true) by decide)] at H; exact H
             clear H
             have H := H1
             clear H1
             have H' := Aside0.mk H
             clear H
             obtain ⟨Ao60, co60, eo60⟩ := Kd.R_slice HO342.out
             subst eo60
             obtain ⟨Ao61, co61, eo61⟩ := Kd.R_slice HO_4.out
             subst eo61
             go_wp2_with (first | ((with_reducible refine gate_callee (f := 9) rfl ?_); refine goesL_ (some 81) rfl rfl Try.func9 (by kernel_rfl) rfl #[.slice Ao60 t339.length co60, .slice Ao61 t314.length co61] rfl ga_ ?_; (with_reducible refine (laws_eqPegS.calls kj27 _ _ t339 _ _ t314 false _ ?side1 ?side2 ?side3 ?side4 A55.out).mono ?_); (case side1 => repeat (first | exact (Kd.R_reads' HO342.out).2.2 | (with_reducible refine Kd.C_alloc ?_ _) | (with_reducible refine Kd.C_drewN ?_ _) | (with_reducible refine Kd.C_drew ?_))); (case side2 => exact (Kd.R_reads' HO342.out).2.1); (case side3 => repeat (first | exact (Kd.R_reads' HO_4.out).2.2 | (with_reducible refine Kd.C_alloc ?_ _) | (with_reducible refine Kd.C_drewN ?_ _) | (with_reducible refine Kd.C_drew ?_))); (case side4 => exact (Kd.R_reads' HO_4.out).2.1); rintro e w62 ⟨rfl, hb⟩; refine ⟨_, rfl, ?_⟩; have n0_ := Aside0.mk (Kd.R_below (rk_ HO_4.out) hb); have n1_ := Aside0.mk (Kd.R_below (rk_ HO_7.out) hb); have n2_ := Aside0.mk (Kd.R_below (rk_ HO338.out) hb); have n3_ := Aside0.mk (Kd.R_below (rk_ HO342.out) hb); have n4_ := Aside0.mk (below_step (hb_) hb); clear HO_4; clear HO_7; clear HO338; clear HO342; clear HB; have HO_4 := n0_; have HO_7 := n1_; have HO338 := n2_; have HO342 := n3_; have HB := n4_; clear n0_ n1_ n2_ n3_ n4_; (try clear hb); (try clear hb2); (try clear hk); (try clear hi)))
             go_meet
             case rel => exact ⟨_, (true), (by first | rfl | (simp; done) | (simp [*]; done)), H', ⟨by have := HJ7.out; have := HJ27.out; first | omega | exact Nat.le_refl _⟩, ⟨by (with_reducible repeat (first | apply Kd.R_alloc | apply Kd.R_drewN | apply Kd.R_drew)); exact Kd.R_mono HO_7.out (fun _ hk => trivial)⟩, ⟨hb_⟩⟩
           case rest =>
            clear HC49
            try clear c1
            try clear c2
            try clear p2
            try clear c3
            try clear c3b0
            try clear c4
            try clear c5
            try clear c7
            try clear c9
            try clear c10
            try clear c11
            try clear c12
            try clear c13
            try clear c16
            try clear c23
            try clear c26
            try clear c33
            try clear c33b0
            try clear c35
            try clear c42
            try clear c45
            try clear c45b0
            try clear c46
            try clear c46b0
            try clear c46b1
            try clear c56
            try clear p2
            obtain ⟨kq, x87_48, rfl, HA, HJ48, HO_7, HB⟩ := hcut
            have hl7_48 := (Kd.R_reads' HO_7.out).1
            rw [hl7_48] at HO_7
            (try simp only [hl7_48])
            cases kq with
            | zero => exact absurd HA.out (by simp [laws_FnExactMostConvex.j2])
            | succ kj48 =>
             have H := HA.out
             clear HA
             simp only [laws_FnExactMostConvex.j2] at H
             by_cases c63 : x87_48 = true
             ·subst c63
              have H1 : (some false) = some r := by rw [if_pos rfl] at H; exact H
              clear H
              have H := H1
              clear H1
              exact absurd (Option.some.inj H) (by rw [hr_]; decide)
             ·replace c63 := Bool.eq_false_iff.mpr c63
              subst c63
              have H1 : ((laws_heldPegS.f kj48 t334 1).bind fun t344 => (if t344 < 0 then (some false) else (if t344 = t333 then (some true) else (some false)))) = some r := by rw [if_neg (show ¬ (false = true) by decide)] at H; exact H
              clear H
              have H := H1
              clear H1
              replace H := Option.bind_eq_some_iff.mp H
              obtain ⟨t344, A640, H⟩ := H
              replace H : (if t344 < 0 then (some false) else (if t344 = t333 then (some true) else (some false))) = some r := H
              have A64 := Aside0.mk A640
              clear A640
              by_cases c65 : t344 < 0
              ·rw [if_pos c65] at H
               have c65b0 : decide (t344 < 0) = true := decide_eq_true c65
               clear c65
               exact absurd (Option.some.inj H) (by rw [hr_]; decide)
              ·rw [if_neg c65] at H
               have c65b0 : decide (t344 < 0) = false := decide_eq_false c65
               clear c65
               by_cases c66 : t344 = t333
               ·rw [if_pos c66] at H
                have c66b0 : (t344 == t333) = true := beq_iff_eq.mpr c66
                have c66b1 : (t344 != t333) = false := bne_eq_false_iff_eq.mpr c66
                clear c66
                obtain rfl := Option.some.inj H
                go_wp2_with (first | ((with_reducible refine gate_callee (f := 13) rfl ?_); refine goesL_ (some 90) rfl rfl Try.func13 (by kernel_rfl) rfl #[.slice Ao50 t334.length co50, .int .i64 1] rfl ga_ ?_; (with_reducible refine (laws_heldPegS.calls kj48 _ _ t334 1 t344 _ ?side1 ?side2 A64.out).mono ?_); (case side1 => repeat (first | exact (Kd.R_reads' HO_7.out).2.2 | (with_reducible refine Kd.C_alloc ?_ _) | (with_reducible refine Kd.C_drewN ?_ _) | (with_reducible refine Kd.C_drew ?_))); (case side2 => exact (Kd.R_reads' HO_7.out).2.1); rintro e w' ⟨rfl, ⟨nd, rfl⟩⟩; refine ⟨_, rfl, ?_⟩))
                go_ret
                exact ⟨by first | rfl | (simp [errW_none, errW_some] <;> rfl) | (simp [*, errW_none, errW_some] <;> rfl), hb_⟩
               ·rw [if_neg c66] at H
                have c66b0 : (t344 == t333) = false := beq_eq_false_iff_ne.mpr c66
                have c66b1 : (t344 != t333) = true := bne_iff_ne.mpr c66
                exact absurd (Option.some.inj H) (by rw [hr_]; decide)
          ·rw [if_neg c46] at H
           have c46b0 : (t335 == t333) = false := beq_eq_false_iff_ne.mpr c46
           have c46b1 : (t335 != t333) = true := bne_iff_ne.mpr c46
           exact absurd (Option.some.inj H) (by rw [hr_]; decide)
     ·replace c26 := Bool.eq_false_iff.mpr c26
      subst c26
      have H1 : (some false) = some r := by rw [if_neg (show ¬ (false = true) by decide)] at H; exact H
      clear H
      have H := H1
      clear H1
      exact absurd (Option.some.inj H) (by rw [hr_]; decide)

end Go.Proofs.Ytnnmpdhijdkpcaa.MW
