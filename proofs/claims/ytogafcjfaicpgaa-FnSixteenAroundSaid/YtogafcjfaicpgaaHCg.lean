/- The law FnSixteenAround, walked. No condition beyond those typed. -/
import Derived.Test.YtogafcjfaicpgaaMCx0
import Derived.Test.YtogafcjfaicpgaaMCx6
import Derived.Test.YtogafcjfaicpgaaMCx14
import Derived.Test.YtogafcjfaicpgaaMCx15
import Derived.Test.YtogafcjfaicpgaaMCx16
import Derived.Test.YtogafcjfaicpgaaMCx17
import Derived.Test.YtogafcjfaicpgaaMCx19
import Derived.Test.YtogafcjfaicpgaaMCx20
import Derived.Test.YtogafcjfaicpgaaHCf
namespace Go.Proofs.Ytogafcjfaicpgaa.MC
open Go.RowKit Go.Proofs.YtogafcjfaicpgaaW.PrintWords Go.Proofs.YtogafcjfaicpgaaW.PrintLast Go.Proofs.YtogafcjfaicpgaaW.PrintMore Go.Proofs.YtogafcjfaicpgaaV
attribute [local go_sem] max2_int min2_int max_two min_two max_three min_three max_four min_four   -- for this text's walks alone
set_option linter.unusedVariables false
set_option linter.unusedSimpArgs false

set_option maxHeartbeats 8000000 in
set_option maxRecDepth 100000 in
theorem laws_FnSixteenAround.calls (k : Nat) (A0 : Option Addr) (c0 : Nat) (l0 : List Int) (A1 : Option Addr) (c1 : Nat) (l1 : List Int) (r : Bool) (w : World) (hr0 : Kd.C (Kd.int .u8) w A0 l0.length l0) (hc0 : l0.length ≤ c0) (hr1 : Kd.C (Kd.int .u8) w A1 l1.length l1) (hc1 : l1.length ≤ c1) (hr_ : r = true) (h : laws_FnSixteenAround.f k l0 l1 = some r) :
    Calls Try.prog 5 #[.slice A0 l0.length c0, .slice A1 l1.length c1] w fun e w' => e = .returned (.bool r) ∧ Below w.heap.size w w' := by
  have HR0 := Aside0.mk hr0
  have HC0 := Aside0.mk hc0
  clear hr0 hc0
  have HR1 := Aside0.mk hr1
  have HC1 := Aside0.mk hc1
  clear hr1 hc1
  have HB := Aside0.mk (Below.refl w.heap.size w)
  have H : ((laws_big.f l0 l1).bind fun t326 => (if t326 = true then (some true) else ((spec_DrawAllAround.f l0).bind fun t327 => ((impl_AllAround.f k t327).bind fun bt328 => ((spec_AllAround.f k t327).bind fun bt332 => ((impl_CountAround.f k t327).bind fun bt336 => ((spec_CountAround.f k t327).bind fun bt338 => (if (bt328.2 != bt332.2) = true then (laws_FnSixteenAround.j0 k l1 t327 bt328.1 bt328.2 bt336.1 true) else ((laws_eRows.f k bt328.1 bt332.1).bind fun t340 => (if t340 = true then (if (bt336.2 != bt338.2) = true then (laws_FnSixteenAround.j0 k l1 t327 bt328.1 bt328.2 bt336.1 true) else (if bt336.1 = bt338.1 then (laws_FnSixteenAround.j0 k l1 t327 bt328.1 bt328.2 bt336.1 (bt336.2 != bt328.2)) else (laws_FnSixteenAround.j0 k l1 t327 bt328.1 bt328.2 bt336.1 true))) else (laws_FnSixteenAround.j0 k l1 t327 bt328.1 bt328.2 bt336.1 true))))))))))) = some r := h
  clear h
  replace H := Option.bind_eq_some_iff.mp H
  obtain ⟨t326, A30, H⟩ := H
  replace H : (if t326 = true then (some true) else ((spec_DrawAllAround.f l0).bind fun t327 => ((impl_AllAround.f k t327).bind fun bt328 => ((spec_AllAround.f k t327).bind fun bt332 => ((impl_CountAround.f k t327).bind fun bt336 => ((spec_CountAround.f k t327).bind fun bt338 => (if (bt328.2 != bt332.2) = true then (laws_FnSixteenAround.j0 k l1 t327 bt328.1 bt328.2 bt336.1 true) else ((laws_eRows.f k bt328.1 bt332.1).bind fun t340 => (if t340 = true then (if (bt336.2 != bt338.2) = true then (laws_FnSixteenAround.j0 k l1 t327 bt328.1 bt328.2 bt336.1 true) else (if bt336.1 = bt338.1 then (laws_FnSixteenAround.j0 k l1 t327 bt328.1 bt328.2 bt336.1 (bt336.2 != bt328.2)) else (laws_FnSixteenAround.j0 k l1 t327 bt328.1 bt328.2 bt336.1 true))) else (laws_FnSixteenAround.j0 k l1 t327 bt328.1 bt328.2 bt336.1 true)))))))))) = some r := H
  have A3 := Aside0.mk A30
  clear A30
  by_cases c4 : t326 = true
  · subst c4
    have H1 : (some true) = some r := by rw [if_pos rfl] at H; exact H
    clear H
    have H := H1
    clear H1
    obtain rfl := Option.some.inj H
    go_enter Try.func5, Try.ntmps5
    go_wp2_with (first | ((with_reducible refine gate_callee (f := 13) rfl ?_); refine goesL_ (some 47) rfl rfl Try.func13 (by kernel_rfl) rfl #[.slice A0 l0.length c0, .slice A1 l1.length c1] rfl ga_ ?_; (with_reducible refine (laws_big.calls _ _ l0 _ _ l1 true _ ?side1 ?side2 ?side3 ?side4 A3.out).mono ?_); (case side1 => repeat (first | exact HR0.out | (with_reducible refine Kd.C_alloc ?_ _) | (with_reducible refine Kd.C_drewN ?_ _) | (with_reducible refine Kd.C_drew ?_))); (case side2 => exact HC0.out); (case side3 => repeat (first | exact HR1.out | (with_reducible refine Kd.C_alloc ?_ _) | (with_reducible refine Kd.C_drewN ?_ _) | (with_reducible refine Kd.C_drew ?_))); (case side4 => exact HC1.out); rintro e w' ⟨rfl, ⟨nd, rfl⟩⟩; refine ⟨_, rfl, ?_⟩))
    go_ret
    exact ⟨by first | rfl | (simp [errW_none, errW_some] <;> rfl) | (simp [*, errW_none, errW_some] <;> rfl), hb_⟩
  · replace c4 := Bool.eq_false_iff.mpr c4
    subst c4
    have H1 : ((spec_DrawAllAround.f l0).bind fun t327 => ((impl_AllAround.f k t327).bind fun bt328 => ((spec_AllAround.f k t327).bind fun bt332 => ((impl_CountAround.f k t327).bind fun bt336 => ((spec_CountAround.f k t327).bind fun bt338 => (if (bt328.2 != bt332.2) = true then (laws_FnSixteenAround.j0 k l1 t327 bt328.1 bt328.2 bt336.1 true) else ((laws_eRows.f k bt328.1 bt332.1).bind fun t340 => (if t340 = true then (if (bt336.2 != bt338.2) = true then (laws_FnSixteenAround.j0 k l1 t327 bt328.1 bt328.2 bt336.1 true) else (if bt336.1 = bt338.1 then (laws_FnSixteenAround.j0 k l1 t327 bt328.1 bt328.2 bt336.1 (bt336.2 != bt328.2)) else (laws_FnSixteenAround.j0 k l1 t327 bt328.1 bt328.2 bt336.1 true))) else (laws_FnSixteenAround.j0 k l1 t327 bt328.1 bt328.2 bt336.1 true))))))))) = some r := by rw [if_neg (show ¬ (false = true) by decide)] at H; exact H
    clear H
    have H := H1
    clear H1
    replace H := Option.bind_eq_some_iff.mp H
    obtain ⟨t327, A50, H⟩ := H
    replace H : ((impl_AllAround.f k t327).bind fun bt328 => ((spec_AllAround.f k t327).bind fun bt332 => ((impl_CountAround.f k t327).bind fun bt336 => ((spec_CountAround.f k t327).bind fun bt338 => (if (bt328.2 != bt332.2) = true then (laws_FnSixteenAround.j0 k l1 t327 bt328.1 bt328.2 bt336.1 true) else ((laws_eRows.f k bt328.1 bt332.1).bind fun t340 => (if t340 = true then (if (bt336.2 != bt338.2) = true then (laws_FnSixteenAround.j0 k l1 t327 bt328.1 bt328.2 bt336.1 true) else (if bt336.1 = bt338.1 then (laws_FnSixteenAround.j0 k l1 t327 bt328.1 bt328.2 bt336.1 (bt336.2 != bt328.2)) else (laws_FnSixteenAround.j0 k l1 t327 bt328.1 bt328.2 bt336.1 true))) else (laws_FnSixteenAround.j0 k l1 t327 bt328.1 bt328.2 bt336.1 true)))))))) = some r := H
    have A5 := Aside0.mk A50
    clear A50
    replace H := Option.bind_eq_some_iff.mp H
    obtain ⟨⟨t328, t329⟩, A60, H⟩ := H
    replace H : ((spec_AllAround.f k t327).bind fun bt332 => ((impl_CountAround.f k t327).bind fun bt336 => ((spec_CountAround.f k t327).bind fun bt338 => (if (t329 != bt332.2) = true then (laws_FnSixteenAround.j0 k l1 t327 t328 t329 bt336.1 true) else ((laws_eRows.f k t328 bt332.1).bind fun t340 => (if t340 = true then (if (bt336.2 != bt338.2) = true then (laws_FnSixteenAround.j0 k l1 t327 t328 t329 bt336.1 true) else (if bt336.1 = bt338.1 then (laws_FnSixteenAround.j0 k l1 t327 t328 t329 bt336.1 (bt336.2 != t329)) else (laws_FnSixteenAround.j0 k l1 t327 t328 t329 bt336.1 true))) else (laws_FnSixteenAround.j0 k l1 t327 t328 t329 bt336.1 true))))))) = some r := H
    have A6 := Aside0.mk A60
    clear A60
    replace H := Option.bind_eq_some_iff.mp H
    obtain ⟨⟨t332, t333⟩, A70, H⟩ := H
    replace H : ((impl_CountAround.f k t327).bind fun bt336 => ((spec_CountAround.f k t327).bind fun bt338 => (if (t329 != t333) = true then (laws_FnSixteenAround.j0 k l1 t327 t328 t329 bt336.1 true) else ((laws_eRows.f k t328 t332).bind fun t340 => (if t340 = true then (if (bt336.2 != bt338.2) = true then (laws_FnSixteenAround.j0 k l1 t327 t328 t329 bt336.1 true) else (if bt336.1 = bt338.1 then (laws_FnSixteenAround.j0 k l1 t327 t328 t329 bt336.1 (bt336.2 != t329)) else (laws_FnSixteenAround.j0 k l1 t327 t328 t329 bt336.1 true))) else (laws_FnSixteenAround.j0 k l1 t327 t328 t329 bt336.1 true)))))) = some r := H
    have A7 := Aside0.mk A70
    clear A70
    replace H := Option.bind_eq_some_iff.mp H
    obtain ⟨⟨t336, t337⟩, A80, H⟩ := H
    replace H : ((spec_CountAround.f k t327).bind fun bt338 => (if (t329 != t333) = true then (laws_FnSixteenAround.j0 k l1 t327 t328 t329 t336 true) else ((laws_eRows.f k t328 t332).bind fun t340 => (if t340 = true then (if (t337 != bt338.2) = true then (laws_FnSixteenAround.j0 k l1 t327 t328 t329 t336 true) else (if t336 = bt338.1 then (laws_FnSixteenAround.j0 k l1 t327 t328 t329 t336 (t337 != t329)) else (laws_FnSixteenAround.j0 k l1 t327 t328 t329 t336 true))) else (laws_FnSixteenAround.j0 k l1 t327 t328 t329 t336 true))))) = some r := H
    have A8 := Aside0.mk A80
    clear A80
    replace H := Option.bind_eq_some_iff.mp H
    obtain ⟨⟨t338, t339⟩, A90, H⟩ := H
    replace H : (if (t329 != t333) = true then (laws_FnSixteenAround.j0 k l1 t327 t328 t329 t336 true) else ((laws_eRows.f k t328 t332).bind fun t340 => (if t340 = true then (if (t337 != t339) = true then (laws_FnSixteenAround.j0 k l1 t327 t328 t329 t336 true) else (if t336 = t338 then (laws_FnSixteenAround.j0 k l1 t327 t328 t329 t336 (t337 != t329)) else (laws_FnSixteenAround.j0 k l1 t327 t328 t329 t336 true))) else (laws_FnSixteenAround.j0 k l1 t327 t328 t329 t336 true)))) = some r := H
    have A9 := Aside0.mk A90
    clear A90
    have HC10 := Aside0.mk H
    clear H
    go_enter Try.func5, Try.ntmps5
    go_upto_region 8 with (first | ((with_reducible refine gate_callee (f := 13) rfl ?_); refine goesL_ (some 47) rfl rfl Try.func13 (by kernel_rfl) rfl #[.slice A0 l0.length c0, .slice A1 l1.length c1] rfl ga_ ?_; (with_reducible refine (laws_big.calls _ _ l0 _ _ l1 false _ ?side1 ?side2 ?side3 ?side4 A3.out).mono ?_); (case side1 => repeat (first | exact HR0.out | (with_reducible refine Kd.C_alloc ?_ _) | (with_reducible refine Kd.C_drewN ?_ _) | (with_reducible refine Kd.C_drew ?_))); (case side2 => exact HC0.out); (case side3 => repeat (first | exact HR1.out | (with_reducible refine Kd.C_alloc ?_ _) | (with_reducible refine Kd.C_drewN ?_ _) | (with_reducible refine Kd.C_drew ?_))); (case side4 => exact HC1.out); rintro e w' ⟨rfl, ⟨nd, rfl⟩⟩; refine ⟨_, rfl, ?_⟩) | ((with_reducible refine gate_callee (f := 14) rfl ?_); refine goesL_ (some 49) rfl rfl Try.func14 (by kernel_rfl) rfl #[.slice A0 l0.length c0] rfl ga_ ?_; (with_reducible refine (spec_DrawAllAround.calls _ _ l0 t327 _ ?side1 ?side2 A5.out).mono ?_); (case side1 => repeat (first | exact HR0.out | (with_reducible refine Kd.C_alloc ?_ _) | (with_reducible refine Kd.C_drewN ?_ _) | (with_reducible refine Kd.C_drew ?_))); (case side2 => exact HC0.out); rintro e w11 ⟨rfl, hb⟩; refine ⟨_, rfl, ?_⟩; have n0_ := Aside0.mk (below_step (hb_) hb); clear HB; have HB := n0_; clear n0_; (try clear hb); (try clear hb2); (try clear hk); (try clear hi)) | ((with_reducible refine gate_callee (f := 7) rfl ?_); refine goesL_ (some 52) rfl rfl Try.func7 (by kernel_rfl) rfl #[.int .i64 t327] rfl ga_ ?_; (with_reducible refine (impl_AllAround.calls k t327 t328 t329 _ A6.out).mono ?_); rintro e w12 ⟨v330, rfl, ho0, hb⟩; refine ⟨_, rfl, ?_⟩; have n0_ := Aside0.mk (Kd.S_lower ho0 (below_size (hb_))); have n1_ := Aside0.mk (below_step (hb_) hb); clear HB; have HO331 := n0_; have HB := n1_; clear n0_ n1_; (try clear hb); (try clear hb2); (try clear hk); (try clear hi); (try clear ho0)) | ((with_reducible refine gate_callee (f := 6) rfl ?_); refine goesL_ (some 57) rfl rfl Try.func6 (by kernel_rfl) rfl #[.int .i64 t327] rfl ga_ ?_; (with_reducible refine (spec_AllAround.calls k t327 t332 t333 _ A7.out).mono ?_); rintro e w13 ⟨v334, rfl, ho0, hb⟩; refine ⟨_, rfl, ?_⟩; have n0_ := Aside0.mk (Kd.S_elder' (by (with_reducible repeat (first | apply Kd.S_alloc | apply Kd.S_drewN | apply Kd.S_drew)); exact HO331.out) (Kd.S_base ho0) hb); have n1_ := Aside0.mk (Kd.S_lower (Kd.S_new' ho0 (Kd.S_lt (by (with_reducible repeat (first | apply Kd.S_alloc | apply Kd.S_drewN | apply Kd.S_drew)); exact HO331.out))) (below_size (hb_))); have n2_ := Aside0.mk (below_step (hb_) hb); clear HO331; clear HB; have HO331 := n0_; have HO335 := n1_; have HB := n2_; clear n0_ n1_ n2_; (try clear hb); (try clear hb2); (try clear hk); (try clear hi); (try clear ho0)) | ((with_reducible refine gate_callee (f := 12) rfl ?_); refine goesL_ (some 62) rfl rfl Try.func12 (by kernel_rfl) rfl #[.int .i64 t327] rfl ga_ ?_; (with_reducible refine (impl_CountAround.calls k t327 t336 t337 _ A8.out).mono ?_); rintro e w14 ⟨rfl, hb⟩; refine ⟨_, rfl, ?_⟩; have n0_ := Aside0.mk (Kd.S_below (by (with_reducible repeat (first | apply Kd.S_alloc | apply Kd.S_drewN | apply Kd.S_drew)); exact HO331.out) hb); have n1_ := Aside0.mk (Kd.S_below (by (with_reducible repeat (first | apply Kd.S_alloc | apply Kd.S_drewN | apply Kd.S_drew)); exact HO335.out) hb); have n2_ := Aside0.mk (below_step (hb_) hb); clear HO331; clear HO335; clear HB; have HO331 := n0_; have HO335 := n1_; have HB := n2_; clear n0_ n1_ n2_; (try clear hb); (try clear hb2); (try clear hk); (try clear hi)) | ((with_reducible refine gate_callee (f := 11) rfl ?_); refine goesL_ (some 67) rfl rfl Try.func11 (by kernel_rfl) rfl #[.int .i64 t327] rfl ga_ ?_; (with_reducible refine (spec_CountAround.calls k t327 t338 t339 _ A9.out).mono ?_); rintro e w15 ⟨rfl, hb⟩; refine ⟨_, rfl, ?_⟩; have n0_ := Aside0.mk (Kd.S_below (by (with_reducible repeat (first | apply Kd.S_alloc | apply Kd.S_drewN | apply Kd.S_drew)); exact HO331.out) hb); have n1_ := Aside0.mk (Kd.S_below (by (with_reducible repeat (first | apply Kd.S_alloc | apply Kd.S_drewN | apply Kd.S_drew)); exact HO335.out) hb); have n2_ := Aside0.mk (below_step (hb_) hb); clear HO331; clear HO335; clear HB; have HO331 := n0_; have HO335 := n1_; have HB := n2_; clear n0_ n1_ n2_; (try clear hb); (try clear hb2); (try clear hk); (try clear hi)))
    (try simp only [Act.put, List.setIfInBounds_toArray, List.set_cons_zero, List.set_cons_succ])
    have H := HC10.out
    clear HC10
    by_cases c16 : (t329 != t333) = true
    · rw [if_pos c16] at H
      first | exact (laws_FnSixteenAround.j0_no (hr_ ▸ H)).elim | exact (laws_FnSixteenAround.j4_no (hr_ ▸ H)).elim | exact (laws_FnSixteenAround.j5_no (hr_ ▸ H)).elim
    · rw [if_neg c16] at H
      have c16b0 : (t329 != t333) = false := by simpa using c16
      (try (have c16b1 : decide (t329 = t333) = true := by simpa using c16))
      (try (have c16b2 : (t329 == t333) = true := by simpa using c16))
      clear c16
      (first | rw [c16b0] | (simp only [i64_w, i32_w]; rw [c16b0]) | skip)
      replace H := Option.bind_eq_some_iff.mp H
      obtain ⟨t340, A170, H⟩ := H
      replace H : (if t340 = true then (if (t337 != t339) = true then (laws_FnSixteenAround.j0 k l1 t327 t328 t329 t336 true) else (if t336 = t338 then (laws_FnSixteenAround.j0 k l1 t327 t328 t329 t336 (t337 != t329)) else (laws_FnSixteenAround.j0 k l1 t327 t328 t329 t336 true))) else (laws_FnSixteenAround.j0 k l1 t327 t328 t329 t336 true)) = some r := H
      have A17 := Aside0.mk A170
      clear A170
      by_cases c18 : t340 = true
      · subst c18
        have H1 : (if (t337 != t339) = true then (laws_FnSixteenAround.j0 k l1 t327 t328 t329 t336 true) else (if t336 = t338 then (laws_FnSixteenAround.j0 k l1 t327 t328 t329 t336 (t337 != t329)) else (laws_FnSixteenAround.j0 k l1 t327 t328 t329 t336 true))) = some r := by rw [if_pos rfl] at H; exact H
        clear H
        have H := H1
        clear H1
        by_cases c19 : (t337 != t339) = true
        · rw [if_pos c19] at H
          have c19b0 : (t337 != t339) = true := c19
          (try (have c19b1 : decide (t337 = t339) = false := by simpa using c19))
          (try (have c19b2 : (t337 == t339) = false := by simpa using c19))
          (try (have c19b3 : ¬ (t337 = t339) := by simpa using c19))
          clear c19
          first | exact (laws_FnSixteenAround.j0_no (hr_ ▸ H)).elim | exact (laws_FnSixteenAround.j4_no (hr_ ▸ H)).elim | exact (laws_FnSixteenAround.j5_no (hr_ ▸ H)).elim
        · rw [if_neg c19] at H
          have c19b0 : (t337 != t339) = false := by simpa using c19
          (try (have c19b1 : decide (t337 = t339) = true := by simpa using c19))
          (try (have c19b2 : (t337 == t339) = true := by simpa using c19))
          clear c19
          by_cases c22 : t336 = t338
          · rw [if_pos c22] at H
            have c22b0 : (t336 == t338) = true := beq_iff_eq.mpr c22
            have c22b1 : (t336 != t338) = false := bne_eq_false_iff_eq.mpr c22
            clear c22
            have H' := Aside0.mk H
            clear H
            obtain ⟨Ao23, co23, eo23⟩ := Kd.S_slice HO331.out
            subst eo23
            obtain ⟨Ao24, co24, eo24⟩ := Kd.S_slice HO335.out
            subst eo24
            go_upto_if 93 with (first | (go_at_call 15; (with_reducible refine (laws_eRows.calls k _ _ t328 _ _ t332 true _ ?side1 ?side2 ?side3 ?side4 A17.out).mono ?_); (case side1 => repeat (first | exact (Kd.S_reads' HO331.out).2.2 | (with_reducible refine Kd.C_alloc ?_ _) | (with_reducible refine Kd.C_drewN ?_ _) | (with_reducible refine Kd.C_drew ?_))); (case side2 => exact (Kd.S_reads' HO331.out).2.1); (case side3 => repeat (first | exact (Kd.S_reads' HO335.out).2.2 | (with_reducible refine Kd.C_alloc ?_ _) | (with_reducible refine Kd.C_drewN ?_ _) | (with_reducible refine Kd.C_drew ?_))); (case side4 => exact (Kd.S_reads' HO335.out).2.1); rintro e w' ⟨rfl, ⟨nd, rfl⟩⟩))
            exact sixteen_j0 H'.out hr_ HR1 HC1 ⟨by (with_reducible repeat (first | apply Kd.S_alloc | apply Kd.S_drewN | apply Kd.S_drew)); exact Kd.S_mono HO331.out (fun _ hk => trivial)⟩ ⟨hb_⟩ rfl rfl (by assumption)
          · rw [if_neg c22] at H
            have c22b0 : (t336 == t338) = false := beq_eq_false_iff_ne.mpr c22
            have c22b1 : (t336 != t338) = true := bne_iff_ne.mpr c22
            first | exact (laws_FnSixteenAround.j0_no (hr_ ▸ H)).elim | exact (laws_FnSixteenAround.j4_no (hr_ ▸ H)).elim | exact (laws_FnSixteenAround.j5_no (hr_ ▸ H)).elim
      · replace c18 := Bool.eq_false_iff.mpr c18
        subst c18
        have H1 : (laws_FnSixteenAround.j0 k l1 t327 t328 t329 t336 true) = some r := by rw [if_neg (show ¬ (false = true) by decide)] at H; exact H
        clear H
        have H := H1
        clear H1
        first | exact (laws_FnSixteenAround.j0_no (hr_ ▸ H)).elim | exact (laws_FnSixteenAround.j4_no (hr_ ▸ H)).elim | exact (laws_FnSixteenAround.j5_no (hr_ ▸ H)).elim
end Go.Proofs.Ytogafcjfaicpgaa.MC
