-- Written by a program of this session (wip/print/myprint.py) over the kit's printer; Lean checks it.
import Derived.Test.YtogafcjfaicpgaaMCx0
import Derived.Test.YtogafcjfaicpgaaMCx10
import Derived.Test.YtogafcjfaicpgaaMCx12
namespace Go.Proofs.Ytogafcjfaicpgaa.MC
open Go.RowKit Go.Proofs.YtogafcjfaicpgaaW.PrintWords Go.Proofs.YtogafcjfaicpgaaW.PrintLast Go.Proofs.YtogafcjfaicpgaaW.PrintMore Go.Proofs.YtogafcjfaicpgaaV
attribute [local go_sem] max2_int min2_int max_two min_two max_three min_three max_four min_four   -- for this text's walks alone
set_option linter.unusedVariables false
set_option linter.unusedSimpArgs false

/-! ### impl_withOne: function 45 -/
def impl_withOne.f (l0 : List Int) (a1 : Int) : Option (List Int) := (slices_Clone_int_int.f l0).bind fun t204 => (if (l0.length : Int) = 0 then (none) else (if 0 ≤ (Int.tmod (wrap64 ((wrap64 (a1 - 1)) + (l0.length : Int))) (l0.length : Int)) then (if (Int.tmod (wrap64 ((wrap64 (a1 - 1)) + (l0.length : Int))) (l0.length : Int)) < (t204.length : Int) then ((some (t204.set ((Int.tmod (wrap64 ((wrap64 (a1 - 1)) + (l0.length : Int))) (l0.length : Int)) : Int).toNat (wrap64 ((rd t204 (Int.tmod (wrap64 ((wrap64 (a1 - 1)) + (l0.length : Int))) (l0.length : Int))) + 1)) : List Int)).bind fun y208 => (if 0 ≤ (Int.tmod a1 (l0.length : Int)) then (if (Int.tmod a1 (l0.length : Int)) < (t204.length : Int) then ((slices_Insert_int_int.f (y208.set ((Int.tmod a1 (l0.length : Int)) : Int).toNat (wrap64 ((rd y208 (Int.tmod a1 (l0.length : Int))) + 1))) a1 (([1] : List Int))).bind fun t214 => (some t214)) else (none)) else (none))) else (none)) else (none)))
set_option maxHeartbeats 8000000 in
set_option maxRecDepth 100000 in
theorem impl_withOne.calls (A0 : Option Addr) (c0 : Nat) (l0 : List Int) (a1 : Int) (r : List Int) (w : World) (hr0 : Kd.C (Kd.int .i64) w A0 l0.length l0) (hc0 : l0.length ≤ c0) (h : impl_withOne.f l0 a1 = some r) :
    Calls Try.prog 45 #[.slice A0 l0.length c0, .int .i64 a1] w fun e w' => ∃ v0_ : Value, e = .returned (v0_) ∧ Kd.R (Kd.int .i64) 3 w' w.heap.size (fun _ => True) v0_ r ∧ Below w.heap.size w w' := by
  have HR0 := Aside0.mk hr0
  have HC0 := Aside0.mk hc0
  clear hr0 hc0
  have HB := Aside0.mk (Below.refl w.heap.size w)
  have H : ((slices_Clone_int_int.f l0).bind fun t204 => (if (l0.length : Int) = 0 then (none) else (if 0 ≤ (Int.tmod (wrap64 ((wrap64 (a1 - 1)) + (l0.length : Int))) (l0.length : Int)) then (if (Int.tmod (wrap64 ((wrap64 (a1 - 1)) + (l0.length : Int))) (l0.length : Int)) < (t204.length : Int) then ((some (t204.set ((Int.tmod (wrap64 ((wrap64 (a1 - 1)) + (l0.length : Int))) (l0.length : Int)) : Int).toNat (wrap64 ((rd t204 (Int.tmod (wrap64 ((wrap64 (a1 - 1)) + (l0.length : Int))) (l0.length : Int))) + 1)) : List Int)).bind fun y208 => (if 0 ≤ (Int.tmod a1 (l0.length : Int)) then (if (Int.tmod a1 (l0.length : Int)) < (t204.length : Int) then ((slices_Insert_int_int.f (y208.set ((Int.tmod a1 (l0.length : Int)) : Int).toNat (wrap64 ((rd y208 (Int.tmod a1 (l0.length : Int))) + 1))) a1 (([1] : List Int))).bind fun t214 => (some t214)) else (none)) else (none))) else (none)) else (none)))) = some r := h
  clear h
  replace H := Option.bind_eq_some_iff.mp H
  obtain ⟨t204, A30, H⟩ := H
  replace H : (if (l0.length : Int) = 0 then (none) else (if 0 ≤ (Int.tmod (wrap64 ((wrap64 (a1 - 1)) + (l0.length : Int))) (l0.length : Int)) then (if (Int.tmod (wrap64 ((wrap64 (a1 - 1)) + (l0.length : Int))) (l0.length : Int)) < (t204.length : Int) then ((some (t204.set ((Int.tmod (wrap64 ((wrap64 (a1 - 1)) + (l0.length : Int))) (l0.length : Int)) : Int).toNat (wrap64 ((rd t204 (Int.tmod (wrap64 ((wrap64 (a1 - 1)) + (l0.length : Int))) (l0.length : Int))) + 1)) : List Int)).bind fun y208 => (if 0 ≤ (Int.tmod a1 (l0.length : Int)) then (if (Int.tmod a1 (l0.length : Int)) < (t204.length : Int) then ((slices_Insert_int_int.f (y208.set ((Int.tmod a1 (l0.length : Int)) : Int).toNat (wrap64 ((rd y208 (Int.tmod a1 (l0.length : Int))) + 1))) a1 (([1] : List Int))).bind fun t214 => (some t214)) else (none)) else (none))) else (none)) else (none))) = some r := H
  have A3 := Aside0.mk A30
  clear A30
  by_cases c4 : (l0.length : Int) = 0
  · rw [if_pos c4] at H
    exact absurd H (by simp)
  · rw [if_neg c4] at H
    have c4b0 : ((l0.length : Int) == 0) = false := beq_eq_false_iff_ne.mpr c4
    have c4b1 : ((l0.length : Int) != 0) = true := bne_iff_ne.mpr c4
    have c4b2 : ¬ (l0 = []) := fun h_ => c4 (by rw [h_]; rfl)
    obtain ⟨ji5, hji5⟩ : ∃ j_ : Int, (Int.tmod (wrap64 ((wrap64 (a1 - 1)) + (l0.length : Int))) (l0.length : Int)) = j_ := ⟨_, rfl⟩
    replace H : (if 0 ≤ (ji5) then (if (ji5) < (t204.length : Int) then ((some (t204.set ((ji5) : Int).toNat (wrap64 ((rd t204 (ji5)) + 1)) : List Int)).bind fun y208 => (if 0 ≤ (Int.tmod a1 (l0.length : Int)) then (if (Int.tmod a1 (l0.length : Int)) < (t204.length : Int) then ((slices_Insert_int_int.f (y208.set ((Int.tmod a1 (l0.length : Int)) : Int).toNat (wrap64 ((rd y208 (Int.tmod a1 (l0.length : Int))) + 1))) a1 (([1] : List Int))).bind fun t214 => (some t214)) else (none)) else (none))) else (none)) else (none)) = some r := by first | (rw [hji5] at H; exact H) | (simp only [hji5] at H ⊢; exact H)
    (try rw [hji5] at A3)
    by_cases c6 : 0 ≤ (ji5)
    · rw [if_pos c6] at H
      have c6b0 : decide (0 ≤ (ji5)) = true := decide_eq_true c6
      clear c6
      by_cases c7 : (ji5) < (t204.length : Int)
      · rw [if_pos c7] at H
        have c7b0 : decide ((ji5) < (t204.length : Int)) = true := decide_eq_true c7
        clear c7
        obtain ⟨y208, hy208⟩ : ∃ y_ : List Int, y_ = (t204.set ((ji5) : Int).toNat (wrap64 ((rd t204 (ji5)) + 1))) := ⟨_, rfl⟩
        replace H : (if 0 ≤ (Int.tmod a1 (l0.length : Int)) then (if (Int.tmod a1 (l0.length : Int)) < (t204.length : Int) then ((slices_Insert_int_int.f (y208.set ((Int.tmod a1 (l0.length : Int)) : Int).toNat (wrap64 ((rd y208 (Int.tmod a1 (l0.length : Int))) + 1))) a1 (([1] : List Int))).bind fun t214 => (some t214)) else (none)) else (none)) = some r := by first | (rw [hy208]; with_reducible exact H) | (have H2_ := (Option.bind_some _ _).symm.trans H; rw [hy208]; with_reducible exact H2_) | (have H2_ := (Option.bind_some _ _).symm.trans H; with_reducible exact H2_) | with_reducible exact H | (rw [hy208]; exact H) | exact H
        have Ny208 := Aside0.mk hy208
        clear hy208
        obtain ⟨ji9, hji9⟩ : ∃ j_ : Int, (Int.tmod a1 (l0.length : Int)) = j_ := ⟨_, rfl⟩
        replace H : (if 0 ≤ (ji9) then (if (ji9) < (t204.length : Int) then ((slices_Insert_int_int.f (y208.set ((ji9) : Int).toNat (wrap64 ((rd y208 (ji9)) + 1))) a1 (([1] : List Int))).bind fun t214 => (some t214)) else (none)) else (none)) = some r := by first | (rw [hji9] at H; exact H) | (simp only [hji9] at H ⊢; exact H)
        (try rw [hji9] at A3)
        by_cases c10 : 0 ≤ (ji9)
        · rw [if_pos c10] at H
          have c10b0 : decide (0 ≤ (ji9)) = true := decide_eq_true c10
          clear c10
          by_cases c11 : (ji9) < (t204.length : Int)
          · rw [if_pos c11] at H
            have c11b0 : decide ((ji9) < (t204.length : Int)) = true := decide_eq_true c11
            clear c11
            obtain ⟨y210, hy210⟩ : ∃ y_ : List Int, y_ = (y208.set ((ji9) : Int).toNat (wrap64 ((rd y208 (ji9)) + 1))) := ⟨_, rfl⟩
            replace H : ((slices_Insert_int_int.f y210 a1 (([1] : List Int))).bind fun t214 => (some t214)) = some r := by first | (rw [hy210]; with_reducible exact H) | (have H2_ := (Option.bind_some _ _).symm.trans H; rw [hy210]; with_reducible exact H2_) | (have H2_ := (Option.bind_some _ _).symm.trans H; with_reducible exact H2_) | with_reducible exact H | (rw [hy210]; exact H) | exact H
            have Ny210 := Aside0.mk hy210
            clear hy210
            obtain ⟨y211, hy211⟩ : ∃ y_ : List Int, y_ = (([1] : List Int)) := ⟨_, rfl⟩
            replace H : ((slices_Insert_int_int.f y210 a1 y211).bind fun t214 => (some t214)) = some r := by first | (rw [hy211]; with_reducible exact H) | (have H2_ := (Option.bind_some _ _).symm.trans H; rw [hy211]; with_reducible exact H2_) | (have H2_ := (Option.bind_some _ _).symm.trans H; with_reducible exact H2_) | with_reducible exact H | (rw [hy211]; exact H) | exact H
            have Ny211 := Aside0.mk hy211
            clear hy211
            replace H := Option.bind_eq_some_iff.mp H
            obtain ⟨t214, A130, H⟩ := H
            replace H : (some t214) = some r := H
            have A13 := Aside0.mk A130
            clear A130
            obtain rfl := Option.some.inj H
            go_enter Try.func45, Try.ntmps45
            go_wp2_with (first | ((with_reducible refine gate_callee (f := 52) rfl ?_); refine goesL_ (some 10) rfl rfl Try.func52 (by kernel_rfl) rfl #[.slice A0 l0.length c0] rfl ga_ ?_; (with_reducible refine (slices_Clone_int_int.calls _ _ l0 t204 _ ?side1 ?side2 A3.out).mono ?_); (case side1 => repeat (first | exact HR0.out | (with_reducible refine Kd.C_alloc ?_ _) | (with_reducible refine Kd.C_drewN ?_ _) | (with_reducible refine Kd.C_drew ?_))); (case side2 => exact HC0.out); rintro e w14 ⟨v205, rfl, ho0, hb⟩; refine ⟨_, rfl, ?_⟩; have n0_ := Aside0.mk (Kd.R_lower ho0 (below_size (hb_))); have n1_ := Aside0.mk (below_step (hb_) hb); clear HB; have HO206 := n0_; have HB := n1_; clear n0_ n1_; (try clear hb); (try clear hb2); (try clear hk); (try clear hi); (try clear ho0); obtain ⟨Ao15, co15, eo15⟩ := Kd.R_slice HO206.out; subst eo15; have p207 : 0 ≤ ((ji5) : Int) := odt_; have q207 : (ji5) < (t204.length : Int) := odt_; obtain ⟨ad207, e207, hx207_0⟩ := Kd.at_int (Kd.R_reads' HO206.out).2.2 (ji5) p207 q207; cases e207; replace p207 := eq_true p207; replace q207 := eq_true q207; have p8 : 0 ≤ ((ji5) : Int) := odt_; have q8 : ((ji5) : Int) < ((t204.length : Int) : Int) := odt_; obtain ⟨go8, co8, eo8, gb8, gl8, cl8, HG8⟩ := Kd.R_form HO206.out (by omega); (first | cases eo8 | (injection eo8 with ea_ en_ ec_; (first | subst ea_ | (injection ea_ with ea_; subst ea_)); subst ec_; clear en_)); have GB8 := Aside0.mk gb8; have GG8 := Aside0.mk HG8; clear gb8 gl8 HG8; (first | simp only [add_plain] at hx207_0 | skip); obtain ⟨hx8_0, hf8_0⟩ := Kd.R_celln 0 HO206.out ((ji5) : Int) p8 q8; replace p8 := eq_true p8; replace q8 := eq_true q8; obtain ⟨hy16_, hz16_⟩ := Kd.R_celln 0 HO206.out ((ji5) : Int) (odt_) (odt_); have HP16 := Kd.R_putg HO206.out ((ji5) : Int) (wrap64 ((rd t204 (ji5)) + 1))) | ((with_reducible refine gate_store (t := 3) (p := 21) rfl ?_); refine store_event (t := 3) (p := 21) (v := ?vo_w17) (w1 := (w14.setCell ⟨go8, ((ji5) : Int).toNat, none⟩ (.int .i64 (wrap64 ((rd t204 (ji5)) + 1))))) ?hg ?ho ?hn ?hr ?_; (case ho => rfl); (case hg => rfl); (case hn => rfl); (case hr => first | (go_simp; done) | (go_simp; rfl)); intro w17 hw; have hg : w14.grownBy w17 (some go8) := (by rw [hw]; exact HP16.2); have hp_ : Kd.R (Kd.int .i64) 3 w17 w.heap.size (fun _ => True) (.slice (some ⟨go8, 0, none⟩) t204.length co15) y208 := (by rw [hw, Ny208.out]; exact HP16.1); clear HP16; have n0_ := Aside0.mk (hp_); have n1_ := Aside0.mk ((by rw [hw]; exact below_set (HB.out) GB8.out : Below w.heap.size w w17)); clear HO206; clear HB; have HO206 := n0_; have HB := n1_; clear n0_ n1_; clear hg hw hp_; have p209 : 0 ≤ ((ji9) : Int) := odt_; have q209 : (ji9) < (y208.length : Int) := (by have h_ : ((ji9) : Int) < ((t204.length : Int) : Int) := odt_; first | (have e_ := (Kd.R_reads' HO206.out).1; omega) | simpa only [Ny208.out, List.length_set] using h_); have ql209 : (((ji9) : Int) < ((t204.length : Int) : Int)) = True := eq_true (odt_); obtain ⟨ad209, e209, hx209_0⟩ := Kd.at_int (Kd.R_reads' HO206.out).2.2 (ji9) p209 q209; obtain rfl : (⟨go8, 0, none⟩ : Addr) = ad209 := (by injection e209); (first | simp only [add_plain] at hx209_0 | simp only [add_at] at hx209_0 | simp only [Addr.add, Nat.zero_add] at hx209_0 | skip); replace p209 := eq_true p209; replace q209 := eq_true q209; have p12 : 0 ≤ ((ji9) : Int) := odt_; have q12 : ((ji9) : Int) < ((t204.length : Int) : Int) := odt_; obtain ⟨hx12_0, hf12_0⟩ := Kd.R_celln 0 HO206.out ((ji9) : Int) p12 q12; replace p12 := eq_true p12; replace q12 := eq_true q12; obtain ⟨hy18_, hz18_⟩ := Kd.R_celln 0 HO206.out ((ji9) : Int) (odt_) (odt_); have HP18 := Kd.R_putg HO206.out ((ji9) : Int) (wrap64 ((rd y208 (ji9)) + 1))) | ((with_reducible refine gate_store (t := 3) (p := 29) rfl ?_); refine store_event (t := 3) (p := 29) (v := ?vo_w19) (w1 := (w17.setCell ⟨go8, ((ji9) : Int).toNat, none⟩ (.int .i64 (wrap64 ((rd y208 (ji9)) + 1))))) ?hg ?ho ?hn ?hr ?_; (case ho => rfl); (case hg => rfl); (case hn => rfl); (case hr => first | (go_simp; done) | (go_simp; rfl)); intro w19 hw; have hg : w17.grownBy w19 (some go8) := (by rw [hw]; exact HP18.2); have hp_ : Kd.R (Kd.int .i64) 3 w19 w.heap.size (fun _ => True) (.slice (some ⟨go8, 0, none⟩) t204.length co15) y210 := (by rw [hw, Ny210.out]; exact HP18.1); clear HP18; have n0_ := Aside0.mk (hp_); have n1_ := Aside0.mk ((by rw [hw]; exact below_set (HB.out) GB8.out : Below w.heap.size w w19)); clear HO206; clear HB; have HO206 := n0_; have HB := n1_; clear n0_ n1_; clear hg hw hp_) | ((with_reducible refine gate_dst (N := 32) rfl ?_); refine Kd.R_lit (Kd.int .i64) _ 3 ?hg (N := 32) ?hd (xs := ([1] : List Int)) (inner := [.int .i64 1]) (ok := fun _ => True) (okp := fun _ => True) ?hr ?hp (fun _ hk => hk) trivial (Below.refl _ _) (Nat.le_refl _) (by simp) ?_; (case hd => rfl); (case hg => rfl); (case hr => first | (go_simp; done) | (go_simp; rfl)); (case hp => exact (Reps.one (show Kd.M (Kd.int .i64) _ _ _ 1 [.int .i64 1] from rfl) (Reps.none _ _))); intro v212 w20 ho21 hb hg_ hnew_; clear hg_ hnew_; (first | rw [← Ny211.out] at ho21 | (simp only [Int.reduceToNat] at ho21; rw [← Ny211.out] at ho21)); have n0_ := Aside0.mk (Kd.R_elder' (rk_ HO206.out) (Kd.R_base ho21) hb); have n1_ := Aside0.mk (Kd.R_lower (Kd.R_new' ho21 (Kd.R_lt (rk_ HO206.out))) (below_size (hb_))); have n2_ := Aside0.mk (below_step (hb_) hb); clear HO206; clear HB; have HO206 := n0_; have HO213 := n1_; have HB := n2_; clear n0_ n1_ n2_; clear hb ho21; obtain ⟨Ao22, co22, eo22⟩ := Kd.R_slice HO213.out; subst eo22) | ((with_reducible refine gate_callee (f := 59) rfl ?_); refine goesL_ (some 33) rfl rfl Try.func59 (by kernel_rfl) rfl #[.slice (some ⟨go8, 0, none⟩) t204.length co15, .int .i64 a1, .slice Ao22 y211.length co22] rfl ga_ ?_; (with_reducible refine (slices_Insert_int_int.calls (fun k_ => some k_ = (.slice (some ⟨go8, 0, none⟩) t204.length co15 : Value).ownBlock) (.slice (some ⟨go8, 0, none⟩) t204.length co15) y210 a1 (fun k_ => some k_ = (.slice Ao22 y211.length co22 : Value).ownBlock) (.slice Ao22 y211.length co22) y211 t214 w _ ?side1 ?side2 ?side3 ?side4 ?side5 A13.out).mono ?_); (case side1 => repeat (first | (with_reducible first | exact HB.out | apply below_alloc | apply pw_below_drewN | apply below_drew1) | exact HB.out)); (case side2 => exact Kd.R_tight rfl HO206.out); (case side3 => exact fun k_ e_ => (HO206.out.1 k_ e_.symm).2); (case side4 => exact Kd.R_tight rfl HO213.out); (case side5 => exact fun k_ e_ => (HO213.out.1 k_ e_.symm).2); rintro e w23 ⟨v215, rfl, ho0, hb, hkp⟩; refine ⟨_, rfl, ?_⟩; have n0_ := Aside0.mk (Kd.R_mono (ok' := fun k_ => True) ho0 (fun k_ hk_ => trivial)); have n1_ := Aside0.mk (hb); clear HB; clear HO206; clear HO213; have HO216 := n0_; have HB := n1_; clear n0_ n1_; (try clear hb); (try clear hkp); (try clear ho0)))
            go_ret
            exact ⟨_, by first | rfl | (simp [errW_none, errW_some] <;> rfl) | (simp only [← hji5, ← hji9]; first | rfl | (simp [errW_none, errW_some] <;> rfl)) | (simp [*, errW_none, errW_some] <;> rfl), by (with_reducible repeat (first | apply Kd.R_alloc | apply Kd.R_drewN | apply Kd.R_drew)); exact HO216.out, hb_⟩
          · rw [if_neg c11] at H
            exact absurd H (by simp)
        · rw [if_neg c10] at H
          exact absurd H (by simp)
      · rw [if_neg c7] at H
        exact absurd H (by simp)
    · rw [if_neg c6] at H
      exact absurd H (by simp)

end Go.Proofs.Ytogafcjfaicpgaa.MC
