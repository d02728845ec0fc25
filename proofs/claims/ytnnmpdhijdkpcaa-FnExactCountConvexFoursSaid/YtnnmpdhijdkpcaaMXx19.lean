-- Written by a program of this session (wip/print/myprint.py) over the kit's printer; Lean checks it.
import Derived.Test.YtnnmpdhijdkpcaaMXx0
import Derived.Test.YtnnmpdhijdkpcaaMXx2
import Derived.Test.YtnnmpdhijdkpcaaMXx8
import Derived.Test.YtnnmpdhijdkpcaaMXx17
import Derived.Test.YtnnmpdhijdkpcaaMXx18
namespace Go.Proofs.Ytnnmpdhijdkpcaa.MX
open Go.RowKit Go.Proofs.YtnnmpdhijdkpcaaW.PrintWords Go.Proofs.YtnnmpdhijdkpcaaW.PrintLast Go.Proofs.YtnnmpdhijdkpcaaW.PrintMore Go.Proofs.YtnnmpdhijdkpcaaV
attribute [local go_sem] max2_int min2_int max_two min_two max_three min_three max_four min_four   -- for this text's walks alone
set_option linter.unusedVariables false
set_option linter.unusedSimpArgs false

/-! ### laws_FnExactCountConvexFours: function 3 -/
def laws_FnExactCountConvexFours.j0 : Nat → List (S39) → List (S37) → Bool → Option (Bool)
  | 0, _, _, _ => none
  | k + 1, x0, x6, x34 => if x34 = true then (some false) else ((laws_toPegS.f k x0).bind fun t329 => ((laws_eqPegS.f k x6 t329).bind fun t332 => (if t332 = true then (some true) else (some false))))
def laws_FnExactCountConvexFours.f (k : Nat) (l0 : List (S39)) : Option (Bool) := (laws_szPegS.f l0 1048576).bind fun t318 => (if t318 < 0 then (some true) else ((laws_toPegS.f k l0).bind fun t319 => ((spec_CountConvexFours.f k t319).bind fun bt322 => ((laws_toPegS.f k l0).bind fun t324 => ((impl_CountConvexFours.f k t324).bind fun bt327 => (if bt327.1 = bt322.1 then (laws_FnExactCountConvexFours.j0 k l0 t324 (bt327.2 != bt322.2)) else (laws_FnExactCountConvexFours.j0 k l0 t324 true)))))))
theorem laws_FnExactCountConvexFours.mono_l : ∀ k, (∀ y0 y1 y2, LeO (laws_FnExactCountConvexFours.j0 k y0 y1 y2) (laws_FnExactCountConvexFours.j0 (k + 1) y0 y1 y2))
  | 0 => fun _ _ _ r h => by simp [laws_FnExactCountConvexFours.j0] at h
  | k + 1 => by
    have ih0 := laws_FnExactCountConvexFours.mono_l k
    · intro y0 y1 y2
      unfold laws_FnExactCountConvexFours.j0
      repeat' first
      | (with_reducible exact ih0 _ _ _)
      | (with_reducible exact impl_CountConvexFours.mono _ _)
      | (with_reducible exact laws_eqPegS.mono _ _ _)
      | (with_reducible exact laws_toPegS.mono _ _)
      | (with_reducible exact spec_CountConvexFours.mono _ _)
      | (with_reducible exact LeO.refl _)
      | (with_reducible exact LeO.none _)
      | (with_reducible refine LeO.ite ?_ ?_)
      | (with_reducible refine LeO.bind ?_ (fun _ => ?_))
      | exact ih0 _ _ _
      | exact impl_CountConvexFours.mono _ _
      | exact laws_eqPegS.mono _ _ _
      | exact laws_toPegS.mono _ _
      | exact spec_CountConvexFours.mono _ _
      | exact LeO.none _
      | refine LeO.ite ?_ ?_
      | refine LeO.bind ?_ (fun _ => ?_)
theorem laws_FnExactCountConvexFours.mono : ∀ a0 k, LeO (laws_FnExactCountConvexFours.f k a0) (laws_FnExactCountConvexFours.f (k + 1) a0) := by
  intro a0 k
  have ih0 := laws_FnExactCountConvexFours.mono_l k
  unfold laws_FnExactCountConvexFours.f
  repeat' first
      | (with_reducible exact ih0 _ _ _)
      | (with_reducible exact impl_CountConvexFours.mono _ _)
      | (with_reducible exact laws_eqPegS.mono _ _ _)
      | (with_reducible exact laws_toPegS.mono _ _)
      | (with_reducible exact spec_CountConvexFours.mono _ _)
      | (with_reducible exact LeO.refl _)
      | (with_reducible exact LeO.none _)
      | (with_reducible refine LeO.ite ?_ ?_)
      | (with_reducible refine LeO.bind ?_ (fun _ => ?_))
      | exact ih0 _ _ _
      | exact impl_CountConvexFours.mono _ _
      | exact laws_eqPegS.mono _ _ _
      | exact laws_toPegS.mono _ _
      | exact spec_CountConvexFours.mono _ _
      | exact LeO.none _
      | refine LeO.ite ?_ ?_
      | refine LeO.bind ?_ (fun _ => ?_)
set_option maxHeartbeats 8000000 in
set_option maxRecDepth 100000 in
theorem laws_FnExactCountConvexFours.calls (k : Nat) (A0 : Option Addr) (c0 : Nat) (l0 : List (S39)) (r : Bool) (w : World) (hr0 : Kd.C k39 w A0 l0.length l0) (hc0 : l0.length ≤ c0) (hr_ : r = true) (h : laws_FnExactCountConvexFours.f k l0 = some r) :
    Calls Try.prog 3 #[.slice A0 l0.length c0] w fun e w' => e = .returned (.bool r) ∧ Below w.heap.size w w' := by
  have HR0 := Aside0.mk hr0
  have HC0 := Aside0.mk hc0
  clear hr0 hc0
  have HB := Aside0.mk (Below.refl w.heap.size w)
  have H : ((laws_szPegS.f l0 1048576).bind fun t318 => (if t318 < 0 then (some true) else ((laws_toPegS.f k l0).bind fun t319 => ((spec_CountConvexFours.f k t319).bind fun bt322 => ((laws_toPegS.f k l0).bind fun t324 => ((impl_CountConvexFours.f k t324).bind fun bt327 => (if bt327.1 = bt322.1 then (laws_FnExactCountConvexFours.j0 k l0 t324 (bt327.2 != bt322.2)) else (laws_FnExactCountConvexFours.j0 k l0 t324 true)))))))) = some r := h
  clear h
  replace H := Option.bind_eq_some_iff.mp H
  obtain ⟨t318, A20, H⟩ := H
  replace H : (if t318 < 0 then (some true) else ((laws_toPegS.f k l0).bind fun t319 => ((spec_CountConvexFours.f k t319).bind fun bt322 => ((laws_toPegS.f k l0).bind fun t324 => ((impl_CountConvexFours.f k t324).bind fun bt327 => (if bt327.1 = bt322.1 then (laws_FnExactCountConvexFours.j0 k l0 t324 (bt327.2 != bt322.2)) else (laws_FnExactCountConvexFours.j0 k l0 t324 true))))))) = some r := H
  have A2 := Aside0.mk A20
  clear A20
  by_cases c3 : t318 < 0
  · rw [if_pos c3] at H
    have c3b0 : decide (t318 < 0) = true := decide_eq_true c3
    clear c3
    obtain rfl := Option.some.inj H
    go_enter Try.func3, Try.ntmps3
    go_wp2_with (first | ((with_reducible refine gate_callee (f := 5) rfl ?_); refine goesL_ (some 11) rfl rfl Try.func5 (by kernel_rfl) rfl #[.slice A0 l0.length c0, .int .i64 1048576] rfl ga_ ?_; (with_reducible refine (laws_szPegS.calls _ _ l0 1048576 t318 _ ?side1 ?side2 A2.out).mono ?_); (case side1 => repeat (first | exact HR0.out | (with_reducible refine Kd.C_alloc ?_ _) | (with_reducible refine Kd.C_drewN ?_ _) | (with_reducible refine Kd.C_drew ?_))); (case side2 => exact HC0.out); rintro e w' ⟨rfl, ⟨nd, rfl⟩⟩; refine ⟨_, rfl, ?_⟩))
    go_ret
    exact ⟨by first | rfl | (simp [errW_none, errW_some] <;> rfl) | (simp [*, errW_none, errW_some] <;> rfl), hb_⟩
  · rw [if_neg c3] at H
    have c3b0 : decide (t318 < 0) = false := decide_eq_false c3
    clear c3
    replace H := Option.bind_eq_some_iff.mp H
    obtain ⟨t319, A40, H⟩ := H
    replace H : ((spec_CountConvexFours.f k t319).bind fun bt322 => ((laws_toPegS.f k l0).bind fun t324 => ((impl_CountConvexFours.f k t324).bind fun bt327 => (if bt327.1 = bt322.1 then (laws_FnExactCountConvexFours.j0 k l0 t324 (bt327.2 != bt322.2)) else (laws_FnExactCountConvexFours.j0 k l0 t324 true))))) = some r := H
    have A4 := Aside0.mk A40
    clear A40
    replace H := Option.bind_eq_some_iff.mp H
    obtain ⟨⟨t322, t323⟩, A50, H⟩ := H
    replace H : ((laws_toPegS.f k l0).bind fun t324 => ((impl_CountConvexFours.f k t324).bind fun bt327 => (if bt327.1 = t322 then (laws_FnExactCountConvexFours.j0 k l0 t324 (bt327.2 != t323)) else (laws_FnExactCountConvexFours.j0 k l0 t324 true)))) = some r := H
    have A5 := Aside0.mk A50
    clear A50
    replace H := Option.bind_eq_some_iff.mp H
    obtain ⟨t324, A60, H⟩ := H
    replace H : ((impl_CountConvexFours.f k t324).bind fun bt327 => (if bt327.1 = t322 then (laws_FnExactCountConvexFours.j0 k l0 t324 (bt327.2 != t323)) else (laws_FnExactCountConvexFours.j0 k l0 t324 true))) = some r := H
    have A6 := Aside0.mk A60
    clear A60
    replace H := Option.bind_eq_some_iff.mp H
    obtain ⟨⟨t327, t328⟩, A70, H⟩ := H
    replace H : (if t327 = t322 then (laws_FnExactCountConvexFours.j0 k l0 t324 (t328 != t323)) else (laws_FnExactCountConvexFours.j0 k l0 t324 true)) = some r := H
    have A7 := Aside0.mk A70
    clear A70
    have HC8 := Aside0.mk H
    clear H
    go_enter Try.func3, Try.ntmps3
    go_upto_region 8 with (first | ((with_reducible refine gate_callee (f := 5) rfl ?_); refine goesL_ (some 11) rfl rfl Try.func5 (by kernel_rfl) rfl #[.slice A0 l0.length c0, .int .i64 1048576] rfl ga_ ?_; (with_reducible refine (laws_szPegS.calls _ _ l0 1048576 t318 _ ?side1 ?side2 A2.out).mono ?_); (case side1 => repeat (first | exact HR0.out | (with_reducible refine Kd.C_alloc ?_ _) | (with_reducible refine Kd.C_drewN ?_ _) | (with_reducible refine Kd.C_drew ?_))); (case side2 => exact HC0.out); rintro e w' ⟨rfl, ⟨nd, rfl⟩⟩; refine ⟨_, rfl, ?_⟩) | ((with_reducible refine gate_callee (f := 7) rfl ?_); refine goesL_ (some 16) rfl rfl Try.func7 (by kernel_rfl) rfl #[.slice A0 l0.length c0] rfl ga_ ?_; (with_reducible refine (laws_toPegS.calls k _ _ l0 t319 _ ?side1 ?side2 A4.out).mono ?_); (case side1 => repeat (first | exact HR0.out | (with_reducible refine Kd.C_alloc ?_ _) | (with_reducible refine Kd.C_drewN ?_ _) | (with_reducible refine Kd.C_drew ?_))); (case side2 => exact HC0.out); rintro e w9 ⟨v320, rfl, ho0, hb⟩; refine ⟨_, rfl, ?_⟩; have n0_ := Aside0.mk (Kd.R_lower ho0 (below_size (hb_))); have n1_ := Aside0.mk (below_step (hb_) hb); clear HB; have HO321 := n0_; have HB := n1_; clear n0_ n1_; (try clear hb); (try clear hb2); (try clear hk); (try clear hi); (try clear ho0); obtain ⟨Ao10, co10, eo10⟩ := Kd.R_slice HO321.out; subst eo10) | ((with_reducible refine gate_callee (f := 6) rfl ?_); refine goesL_ (some 17) rfl rfl Try.func6 (by kernel_rfl) rfl #[.slice Ao10 t319.length co10] rfl ga_ ?_; (with_reducible refine (spec_CountConvexFours.calls k _ _ t319 t322 t323 _ ?side1 ?side2 A5.out).mono ?_); (case side1 => repeat (first | exact (Kd.R_reads' HO321.out).2.2 | (with_reducible refine Kd.C_alloc ?_ _) | (with_reducible refine Kd.C_drewN ?_ _) | (with_reducible refine Kd.C_drew ?_))); (case side2 => exact (Kd.R_reads' HO321.out).2.1); rintro e w11 ⟨rfl, hb⟩; refine ⟨_, rfl, ?_⟩; have n0_ := Aside0.mk (Kd.R_below (rk_ HO321.out) hb); have n1_ := Aside0.mk (below_step (hb_) hb); clear HO321; clear HB; have HO321 := n0_; have HB := n1_; clear n0_ n1_; (try clear hb); (try clear hb2); (try clear hk); (try clear hi)) | ((with_reducible refine gate_callee (f := 7) rfl ?_); refine goesL_ (some 21) rfl rfl Try.func7 (by kernel_rfl) rfl #[.slice A0 l0.length c0] rfl ga_ ?_; (with_reducible refine (laws_toPegS.calls k _ _ l0 t324 _ ?side1 ?side2 A6.out).mono ?_); (case side1 => repeat (first | exact (Kd.C_below HR0.out HB.out) | (with_reducible refine Kd.C_alloc ?_ _) | (with_reducible refine Kd.C_drewN ?_ _) | (with_reducible refine Kd.C_drew ?_))); (case side2 => exact HC0.out); rintro e w12 ⟨v325, rfl, ho0, hb⟩; refine ⟨_, rfl, ?_⟩; have n0_ := Aside0.mk (Kd.R_elder' (rk_ HO321.out) (Kd.R_base ho0) hb); have n1_ := Aside0.mk (Kd.R_lower (Kd.R_new' ho0 (Kd.R_lt (rk_ HO321.out))) (below_size (hb_))); have n2_ := Aside0.mk (below_step (hb_) hb); clear HO321; clear HB; have HO321 := n0_; have HO326 := n1_; have HB := n2_; clear n0_ n1_ n2_; (try clear hb); (try clear hb2); (try clear hk); (try clear hi); (try clear ho0); obtain ⟨Ao13, co13, eo13⟩ := Kd.R_slice HO326.out; subst eo13) | ((with_reducible refine gate_callee (f := 8) rfl ?_); refine goesL_ (some 24) rfl rfl Try.func8 (by kernel_rfl) rfl #[.slice Ao13 t324.length co13] rfl ga_ ?_; (with_reducible refine (impl_CountConvexFours.calls k _ _ t324 t327 t328 _ ?side1 ?side2 A7.out).mono ?_); (case side1 => repeat (first | exact (Kd.R_reads' HO326.out).2.2 | (with_reducible refine Kd.C_alloc ?_ _) | (with_reducible refine Kd.C_drewN ?_ _) | (with_reducible refine Kd.C_drew ?_))); (case side2 => exact (Kd.R_reads' HO326.out).2.1); rintro e w14 ⟨rfl, hb⟩; refine ⟨_, rfl, ?_⟩; have n0_ := Aside0.mk (Kd.R_below (rk_ HO321.out) hb); have n1_ := Aside0.mk (Kd.R_below (rk_ HO326.out) hb); have n2_ := Aside0.mk (below_step (hb_) hb); clear HO321; clear HO326; clear HB; have HO321 := n0_; have HO326 := n1_; have HB := n2_; clear n0_ n1_ n2_; (try clear hb); (try clear hb2); (try clear hk); (try clear hi)))
    (try simp only [Act.put, List.setIfInBounds_toArray, List.set_cons_zero, List.set_cons_succ])
    go_cut [34] (fun v34 wc => ∃ (kq : Nat) (x34_7 : Bool), v34 = .bool x34_7 ∧ Aside0 (laws_FnExactCountConvexFours.j0 kq l0 t324 x34_7 = some r) ∧ Aside0 (kq ≤ k) ∧ Aside0 (Kd.R k37 37 wc w.heap.size (fun _ => True) (.slice Ao13 t324.length co13) t324) ∧ Aside0 (Below w.heap.size w wc))
    case first =>
      have H := HC8.out
      clear HC8
      by_cases c15 : t327 = t322
      · rw [if_pos c15] at H
        have c15b0 : (t327 == t322) = true := beq_iff_eq.mpr c15
        have c15b1 : (t327 != t322) = false := bne_eq_false_iff_eq.mpr c15
        clear c15
        (first | rw [c15b0] | (simp only [i64_w, i32_w]; rw [c15b0]) | skip)
        have H' := Aside0.mk H
        clear H
        go_wp2
        go_meet
        case rel => exact ⟨_, ((t328 != t323)), (by first | rfl | (simp; done) | (simp [*]; done)), H', ⟨by first | omega | exact Nat.le_refl _⟩, ⟨by (with_reducible repeat (first | apply Kd.R_alloc | apply Kd.R_drewN | apply Kd.R_drew)); exact Kd.R_mono HO326.out (fun _ hk => trivial)⟩, ⟨hb_⟩⟩
      · rw [if_neg c15] at H
        have c15b0 : (t327 == t322) = false := beq_eq_false_iff_ne.mpr c15
        have c15b1 : (t327 != t322) = true := bne_iff_ne.mpr c15
        (first | rw [c15b0] | (simp only [i64_w, i32_w]; rw [c15b0]) | skip)
        have H' := Aside0.mk H
        clear H
        go_wp2
        go_meet
        case rel => exact ⟨_, (true), (by first | rfl | (simp; done) | (simp [*]; done)), H', ⟨by first | omega | exact Nat.le_refl _⟩, ⟨by (with_reducible repeat (first | apply Kd.R_alloc | apply Kd.R_drewN | apply Kd.R_drew)); exact Kd.R_mono HO326.out (fun _ hk => trivial)⟩, ⟨hb_⟩⟩
    case rest =>
      clear HC8
      try clear c1
      try clear p2
      try clear c3
      try clear c3b0
      try clear c5
      try clear c6
      try clear c7
      try clear c8
      try clear c15
      try clear c15b0
      try clear c15b1
      obtain ⟨kq, x34_7, rfl, HA, HJ7, HO_6, HB⟩ := hcut
      cases kq with
      | zero => exact absurd HA.out (by simp [laws_FnExactCountConvexFours.j0])
      | succ kj7 =>
        have H := HA.out
        clear HA
        simp only [laws_FnExactCountConvexFours.j0] at H
        by_cases c16 : x34_7 = true
        · subst c16
          have H1 : (some false) = some r := by rw [if_pos rfl] at H; exact H
          clear H
          have H := H1
          clear H1
          exact absurd (Option.some.inj H) (by rw [hr_]; decide)
        · replace c16 := Bool.eq_false_iff.mpr c16
          subst c16
          have H1 : ((laws_toPegS.f kj7 l0).bind fun t329 => ((laws_eqPegS.f kj7 t324 t329).bind fun t332 => (if t332 = true then (some true) else (some false)))) = some r := by rw [if_neg (show ¬ (false = true) by decide)] at H; exact H
          clear H
          have H := H1
          clear H1
          replace H := Option.bind_eq_some_iff.mp H
          obtain ⟨t329, A170, H⟩ := H
          replace H : ((laws_eqPegS.f kj7 t324 t329).bind fun t332 => (if t332 = true then (some true) else (some false))) = some r := H
          have A17 := Aside0.mk A170
          clear A170
          replace H := Option.bind_eq_some_iff.mp H
          obtain ⟨t332, A180, H⟩ := H
          replace H : (if t332 = true then (some true) else (some false)) = some r := H
          have A18 := Aside0.mk A180
          clear A180
          by_cases c19 : t332 = true
          · subst c19
            have H1 : (some true) = some r := by rw [if_pos rfl] at H; exact H
            clear H
            have H := H1
            clear H1
            obtain rfl := Option.some.inj H
            go_wp2_with (first | ((with_reducible refine gate_callee (f := 7) rfl ?_); refine goesL_ (some 37) rfl rfl Try.func7 (by kernel_rfl) rfl #[.slice A0 l0.length c0] rfl ga_ ?_; (with_reducible refine (laws_toPegS.calls kj7 _ _ l0 t329 _ ?side1 ?side2 A17.out).mono ?_); (case side1 => repeat (first | exact (Kd.C_below HR0.out HB.out) | (with_reducible refine Kd.C_alloc ?_ _) | (with_reducible refine Kd.C_drewN ?_ _) | (with_reducible refine Kd.C_drew ?_))); (case side2 => exact HC0.out); rintro e w20 ⟨v330, rfl, ho0, hb⟩; refine ⟨_, rfl, ?_⟩; have n0_ := Aside0.mk (Kd.R_elder' (rk_ HO_6.out) (Kd.R_base ho0) hb); have n1_ := Aside0.mk (Kd.R_lower (Kd.R_new' ho0 (Kd.R_lt (rk_ HO_6.out))) (below_size (hb_))); have n2_ := Aside0.mk (below_step (hb_) hb); clear HO_6; clear HB; have HO_6 := n0_; have HO331 := n1_; have HB := n2_; clear n0_ n1_ n2_; (try clear hb); (try clear hb2); (try clear hk); (try clear hi); (try clear ho0); obtain ⟨Ao21, co21, eo21⟩ := Kd.R_slice HO331.out; subst eo21) | ((with_reducible refine gate_callee (f := 9) rfl ?_); refine goesL_ (some 38) rfl rfl Try.func9 (by kernel_rfl) rfl #[.slice Ao13 t324.length co13, .slice Ao21 t329.length co21] rfl ga_ ?_; (with_reducible refine (laws_eqPegS.calls kj7 _ _ t324 _ _ t329 true _ ?side1 ?side2 ?side3 ?side4 A18.out).mono ?_); (case side1 => repeat (first | exact (Kd.R_reads' HO_6.out).2.2 | (with_reducible refine Kd.C_alloc ?_ _) | (with_reducible refine Kd.C_drewN ?_ _) | (with_reducible refine Kd.C_drew ?_))); (case side2 => exact (Kd.R_reads' HO_6.out).2.1); (case side3 => repeat (first | exact (Kd.R_reads' HO331.out).2.2 | (with_reducible refine Kd.C_alloc ?_ _) | (with_reducible refine Kd.C_drewN ?_ _) | (with_reducible refine Kd.C_drew ?_))); (case side4 => exact (Kd.R_reads' HO331.out).2.1); rintro e w22 ⟨rfl, hb⟩; refine ⟨_, rfl, ?_⟩; have n0_ := Aside0.mk (Kd.R_below (rk_ HO_6.out) hb); have n1_ := Aside0.mk (Kd.R_below (rk_ HO331.out) hb); have n2_ := Aside0.mk (below_step (hb_) hb); clear HO_6; clear HO331; clear HB; have HO_6 := n0_; have HO331 := n1_; have HB := n2_; clear n0_ n1_ n2_; (try clear hb); (try clear hb2); (try clear hk); (try clear hi)))
            go_ret
            exact ⟨by first | rfl | (simp [errW_none, errW_some] <;> rfl) | (simp [*, errW_none, errW_some] <;> rfl), hb_⟩
          · replace c19 := Bool.eq_false_iff.mpr c19
            subst c19
            have H1 : (some false) = some r := by rw [if_neg (show ¬ (false = true) by decide)] at H; exact H
            clear H
            have H := H1
            clear H1
            exact absurd (Option.some.inj H) (by rw [hr_]; decide)

end Go.Proofs.Ytnnmpdhijdkpcaa.MX
