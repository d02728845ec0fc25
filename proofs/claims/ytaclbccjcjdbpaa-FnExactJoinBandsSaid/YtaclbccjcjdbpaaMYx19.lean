-- Written by a program of this session (wip/print/myprint.py) over the kit's printer; Lean checks it.
import Derived.Test.YtaclbccjcjdbpaaMYx0
import Derived.Test.YtaclbccjcjdbpaaMYx15
import Derived.Test.YtaclbccjcjdbpaaMYx16
import Derived.Test.YtaclbccjcjdbpaaMYx17
import Derived.Test.YtaclbccjcjdbpaaMYx18
namespace Go.Proofs.Ytaclbccjcjdbpaa.MY
open Go.RowKit Go.Proofs.YtaclbccjcjdbpaaW.PrintWords Go.Proofs.YtaclbccjcjdbpaaW.PrintLast Go.Proofs.YtaclbccjcjdbpaaW.PrintMore Go.Proofs.YtaclbccjcjdbpaaV
attribute [local go_sem] max2_int min2_int max_two min_two max_three min_three max_four min_four   -- for this text's walks alone
set_option linter.unusedVariables false
set_option linter.unusedSimpArgs false

/-! ### impl_band: function 65 -/
def impl_band.f (k : Nat) (l0 : List (S34)) : Option ((List (S34))) := (impl_sorted.f l0).bind fun t294 => (if (t294.length : Int) = 1 then (some t294) else ((impl_chain.f k t294).bind fun t297 => ((slices_Reverse_impl_Peg_impl_Peg.f t294).bind fun t300 => ((impl_chain.f k t300).bind fun t301 => (if 0 ≤ (wrap64 ((t297.length : Int) - 1)) then (if (wrap64 ((t297.length : Int) - 1)) ≤ (t297.length : Int) then (if 0 ≤ (wrap64 ((t301.length : Int) - 1)) then (if (wrap64 ((t301.length : Int) - 1)) ≤ (t301.length : Int) then ((slices_Concat_impl_Peg_impl_Peg.f k (([(t297.take ((wrap64 ((t297.length : Int) - 1)) : Int).toNat), (t301.take ((wrap64 ((t301.length : Int) - 1)) : Int).toNat)] : List (List (S34))))).bind fun t317 => (some t317)) else (none)) else (none)) else (none)) else (none))))))
theorem impl_band.mono : ∀ a0 k, LeO (impl_band.f k a0) (impl_band.f (k + 1) a0) := by
  intro a0 k
  unfold impl_band.f
  repeat' first
      | (with_reducible exact impl_chain.mono _ _)
      | (with_reducible exact slices_Concat_impl_Peg_impl_Peg.mono _ _)
      | (with_reducible exact LeO.refl _)
      | (with_reducible exact LeO.none _)
      | (with_reducible refine LeO.ite ?_ ?_)
      | (with_reducible refine LeO.bind ?_ (fun _ => ?_))
      | exact impl_chain.mono _ _
      | exact slices_Concat_impl_Peg_impl_Peg.mono _ _
      | exact LeO.none _
      | refine LeO.ite ?_ ?_
      | refine LeO.bind ?_ (fun _ => ?_)
def impl_band.T7 : Bool × List (List Nat × List Nat) := (true, [([], []), ([], []), ([1], [1]), ([2], [2]), ([0, 3], [0, 3]), ([], []), ([], []), ([6], [6]), ([7], [7]), ([5, 8], [5, 8]), ([4, 9], [4, 9]), ([10], [10]), ([11, 11, 0, 1, 2, 3, 4, 5, 6, 7, 8, 9, 10, 11], [11])])
def impl_band.B7 : List Nat := [0, 0, 2, 6, 15, 0, 0, 64, 192, 480, 1023, 2047, 4095]
theorem impl_band.tab7 : rtab .any (opsOf Try.f65 7) = impl_band.T7 := by kernel_rfl
theorem impl_band.bits7 : waitsOk impl_band.T7.2 impl_band.B7 = true := by kernel_rfl
set_option maxHeartbeats 8000000 in
set_option maxRecDepth 100000 in
theorem impl_band.calls (k : Nat) (A0 : Option Addr) (c0 : Nat) (l0 : List (S34)) (r : List (S34)) (w : World) (hr0 : Kd.C k34 w A0 l0.length l0) (hc0 : l0.length ≤ c0) (h : impl_band.f k l0 = some r) :
    Calls Try.prog 65 #[.slice A0 l0.length c0] w fun e w' => ∃ v0_ : Value, e = .returned (v0_) ∧ Kd.R k34 34 w' w.heap.size (fun _ => True) v0_ r ∧ Below w.heap.size w w' := by
  have HR0 := Aside0.mk hr0
  have HC0 := Aside0.mk hc0
  clear hr0 hc0
  have HB := Aside0.mk (Below.refl w.heap.size w)
  have H : ((impl_sorted.f l0).bind fun t294 => (if (t294.length : Int) = 1 then (some t294) else ((impl_chain.f k t294).bind fun t297 => ((slices_Reverse_impl_Peg_impl_Peg.f t294).bind fun t300 => ((impl_chain.f k t300).bind fun t301 => (if 0 ≤ (wrap64 ((t297.length : Int) - 1)) then (if (wrap64 ((t297.length : Int) - 1)) ≤ (t297.length : Int) then (if 0 ≤ (wrap64 ((t301.length : Int) - 1)) then (if (wrap64 ((t301.length : Int) - 1)) ≤ (t301.length : Int) then ((slices_Concat_impl_Peg_impl_Peg.f k (([(t297.take ((wrap64 ((t297.length : Int) - 1)) : Int).toNat), (t301.take ((wrap64 ((t301.length : Int) - 1)) : Int).toNat)] : List (List (S34))))).bind fun t317 => (some t317)) else (none)) else (none)) else (none)) else (none))))))) = some r := h
  clear h
  replace H := Option.bind_eq_some_iff.mp H
  obtain ⟨t294, A20, H⟩ := H
  replace H : (if (t294.length : Int) = 1 then (some t294) else ((impl_chain.f k t294).bind fun t297 => ((slices_Reverse_impl_Peg_impl_Peg.f t294).bind fun t300 => ((impl_chain.f k t300).bind fun t301 => (if 0 ≤ (wrap64 ((t297.length : Int) - 1)) then (if (wrap64 ((t297.length : Int) - 1)) ≤ (t297.length : Int) then (if 0 ≤ (wrap64 ((t301.length : Int) - 1)) then (if (wrap64 ((t301.length : Int) - 1)) ≤ (t301.length : Int) then ((slices_Concat_impl_Peg_impl_Peg.f k (([(t297.take ((wrap64 ((t297.length : Int) - 1)) : Int).toNat), (t301.take ((wrap64 ((t301.length : Int) - 1)) : Int).toNat)] : List (List (S34))))).bind fun t317 => (some t317)) else (none)) else (none)) else (none)) else (none)))))) = some r := H
  have A2 := Aside0.mk A20
  clear A20
  by_cases c3 : (t294.length : Int) = 1
  · rw [if_pos c3] at H
    have c3b0 : ((t294.length : Int) == 1) = true := beq_iff_eq.mpr c3
    have c3b1 : ((t294.length : Int) != 1) = false := bne_eq_false_iff_eq.mpr c3
    clear c3
    obtain rfl := Option.some.inj H
    go_enter Try.func65, Try.ntmps65
    go_wp2_with (first | ((with_reducible refine gate_callee (f := 55) rfl ?_); refine goesL_ (some 7) rfl rfl Try.func55 (by kernel_rfl) rfl #[.slice A0 l0.length c0] rfl (by (try simp only [List.map_toArray, List.map_cons, List.map_nil]); first | done | rfl | (simp only [List.length_drop, List.length_take]; rfl)) ?_; (with_reducible refine (impl_sorted.calls _ _ l0 t294 _ ?side1 ?side2 A2.out).mono ?_); (case side1 => repeat (first | exact HR0.out | (with_reducible refine Kd.C_alloc ?_ _) | (with_reducible refine Kd.C_drewN ?_ _) | (with_reducible refine Kd.C_drew ?_))); (case side2 => exact HC0.out); rintro e w4 ⟨v295, rfl, ho0, hb⟩; refine ⟨_, rfl, ?_⟩; have n0_ := Aside0.mk (Kd.R_lower ho0 (below_size (hb_))); have n1_ := Aside0.mk (below_step (hb_) hb); clear HB; have HO296 := n0_; have HB := n1_; clear n0_ n1_; (try clear hb); (try clear hb2); (try clear hk); (try clear hi); (try clear ho0); obtain ⟨Ao5, co5, eo5⟩ := Kd.R_slice HO296.out; subst eo5))
    go_ret
    exact ⟨_, by first | rfl | (simp [errW_none, errW_some] <;> rfl) | (simp [*, errW_none, errW_some] <;> rfl), by (with_reducible repeat (first | apply Kd.R_alloc | apply Kd.R_drewN | apply Kd.R_drew)); exact HO296.out, hb_⟩
  · rw [if_neg c3] at H
    have c3b0 : ((t294.length : Int) == 1) = false := beq_eq_false_iff_ne.mpr c3
    have c3b1 : ((t294.length : Int) != 1) = true := bne_iff_ne.mpr c3
    replace H := Option.bind_eq_some_iff.mp H
    obtain ⟨t297, A60, H⟩ := H
    replace H : ((slices_Reverse_impl_Peg_impl_Peg.f t294).bind fun t300 => ((impl_chain.f k t300).bind fun t301 => (if 0 ≤ (wrap64 ((t297.length : Int) - 1)) then (if (wrap64 ((t297.length : Int) - 1)) ≤ (t297.length : Int) then (if 0 ≤ (wrap64 ((t301.length : Int) - 1)) then (if (wrap64 ((t301.length : Int) - 1)) ≤ (t301.length : Int) then ((slices_Concat_impl_Peg_impl_Peg.f k (([(t297.take ((wrap64 ((t297.length : Int) - 1)) : Int).toNat), (t301.take ((wrap64 ((t301.length : Int) - 1)) : Int).toNat)] : List (List (S34))))).bind fun t317 => (some t317)) else (none)) else (none)) else (none)) else (none)))) = some r := H
    have A6 := Aside0.mk A60
    clear A60
    replace H := Option.bind_eq_some_iff.mp H
    obtain ⟨t300, A70, H⟩ := H
    replace H : ((impl_chain.f k t300).bind fun t301 => (if 0 ≤ (wrap64 ((t297.length : Int) - 1)) then (if (wrap64 ((t297.length : Int) - 1)) ≤ (t297.length : Int) then (if 0 ≤ (wrap64 ((t301.length : Int) - 1)) then (if (wrap64 ((t301.length : Int) - 1)) ≤ (t301.length : Int) then ((slices_Concat_impl_Peg_impl_Peg.f k (([(t297.take ((wrap64 ((t297.length : Int) - 1)) : Int).toNat), (t301.take ((wrap64 ((t301.length : Int) - 1)) : Int).toNat)] : List (List (S34))))).bind fun t317 => (some t317)) else (none)) else (none)) else (none)) else (none))) = some r := H
    have A7 := Aside0.mk A70
    clear A70
    replace H := Option.bind_eq_some_iff.mp H
    obtain ⟨t301, A80, H⟩ := H
    replace H : (if 0 ≤ (wrap64 ((t297.length : Int) - 1)) then (if (wrap64 ((t297.length : Int) - 1)) ≤ (t297.length : Int) then (if 0 ≤ (wrap64 ((t301.length : Int) - 1)) then (if (wrap64 ((t301.length : Int) - 1)) ≤ (t301.length : Int) then ((slices_Concat_impl_Peg_impl_Peg.f k (([(t297.take ((wrap64 ((t297.length : Int) - 1)) : Int).toNat), (t301.take ((wrap64 ((t301.length : Int) - 1)) : Int).toNat)] : List (List (S34))))).bind fun t317 => (some t317)) else (none)) else (none)) else (none)) else (none)) = some r := H
    have A8 := Aside0.mk A80
    clear A80
    obtain ⟨ji9, hji9⟩ : ∃ j_ : Int, (wrap64 ((t297.length : Int) - 1)) = j_ := ⟨_, rfl⟩
    replace H : (if 0 ≤ (ji9) then (if (ji9) ≤ (t297.length : Int) then (if 0 ≤ (wrap64 ((t301.length : Int) - 1)) then (if (wrap64 ((t301.length : Int) - 1)) ≤ (t301.length : Int) then ((slices_Concat_impl_Peg_impl_Peg.f k (([(t297.take ((ji9) : Int).toNat), (t301.take ((wrap64 ((t301.length : Int) - 1)) : Int).toNat)] : List (List (S34))))).bind fun t317 => (some t317)) else (none)) else (none)) else (none)) else (none)) = some r := by first | (rw [hji9] at H; exact H) | (simp only [hji9] at H ⊢; exact H)
    (try rw [hji9] at A2)
    (try rw [hji9] at A6)
    (try rw [hji9] at A7)
    (try rw [hji9] at A8)
    have hji9w : (IntKind.i64.wrap ((t297.length : Int) - 1)) = ji9 := (i64_w _).trans hji9
    by_cases c10 : 0 ≤ (ji9)
    · rw [if_pos c10] at H
      have c10b0 := eq_true c10
      have c10b1 : decide (0 ≤ (ji9)) = true := decide_eq_true c10
      clear c10
      by_cases c11 : (ji9) ≤ (t297.length : Int)
      · rw [if_pos c11] at H
        have c11b0 := eq_true c11
        have c11b1 : decide ((ji9) ≤ (t297.length : Int)) = true := decide_eq_true c11
        clear c11
        obtain ⟨y304, hy304⟩ : ∃ y_ : List (S34), y_ = (t297.take ((ji9) : Int).toNat) := ⟨_, rfl⟩
        replace H : (if 0 ≤ (wrap64 ((t301.length : Int) - 1)) then (if (wrap64 ((t301.length : Int) - 1)) ≤ (t301.length : Int) then ((slices_Concat_impl_Peg_impl_Peg.f k (([y304, (t301.take ((wrap64 ((t301.length : Int) - 1)) : Int).toNat)] : List (List (S34))))).bind fun t317 => (some t317)) else (none)) else (none)) = some r := by first | (rw [hy304]; with_reducible exact H) | (have H2_ := (Option.bind_some _ _).symm.trans H; rw [hy304]; with_reducible exact H2_) | (have H2_ := (Option.bind_some _ _).symm.trans H; with_reducible exact H2_) | with_reducible exact H | (rw [hy304]; exact H) | exact H
        have Ny304 := Aside0.mk hy304
        clear hy304
        obtain ⟨ji12, hji12⟩ : ∃ j_ : Int, (wrap64 ((t301.length : Int) - 1)) = j_ := ⟨_, rfl⟩
        replace H : (if 0 ≤ (ji12) then (if (ji12) ≤ (t301.length : Int) then ((slices_Concat_impl_Peg_impl_Peg.f k (([y304, (t301.take ((ji12) : Int).toNat)] : List (List (S34))))).bind fun t317 => (some t317)) else (none)) else (none)) = some r := by first | (rw [hji12] at H; exact H) | (simp only [hji12] at H ⊢; exact H)
        (try rw [hji12] at A2)
        (try rw [hji12] at A6)
        (try rw [hji12] at A7)
        (try rw [hji12] at A8)
        have hji12w : (IntKind.i64.wrap ((t301.length : Int) - 1)) = ji12 := (i64_w _).trans hji12
        by_cases c13 : 0 ≤ (ji12)
        · rw [if_pos c13] at H
          have c13b0 := eq_true c13
          have c13b1 : decide (0 ≤ (ji12)) = true := decide_eq_true c13
          clear c13
          by_cases c14 : (ji12) ≤ (t301.length : Int)
          · rw [if_pos c14] at H
            have c14b0 := eq_true c14
            have c14b1 : decide ((ji12) ≤ (t301.length : Int)) = true := decide_eq_true c14
            clear c14
            obtain ⟨y309, hy309⟩ : ∃ y_ : List (S34), y_ = (t301.take ((ji12) : Int).toNat) := ⟨_, rfl⟩
            replace H : ((slices_Concat_impl_Peg_impl_Peg.f k (([y304, y309] : List (List (S34))))).bind fun t317 => (some t317)) = some r := by first | (rw [hy309]; with_reducible exact H) | (have H2_ := (Option.bind_some _ _).symm.trans H; rw [hy309]; with_reducible exact H2_) | (have H2_ := (Option.bind_some _ _).symm.trans H; with_reducible exact H2_) | with_reducible exact H | (rw [hy309]; exact H) | exact H
            have Ny309 := Aside0.mk hy309
            clear hy309
            obtain ⟨y314, hy314⟩ : ∃ y_ : List (List (S34)), y_ = (([y304, y309] : List (List (S34)))) := ⟨_, rfl⟩
            replace H : ((slices_Concat_impl_Peg_impl_Peg.f k y314).bind fun t317 => (some t317)) = some r := by first | (rw [hy314]; with_reducible exact H) | (have H2_ := (Option.bind_some _ _).symm.trans H; rw [hy314]; with_reducible exact H2_) | (have H2_ := (Option.bind_some _ _).symm.trans H; with_reducible exact H2_) | with_reducible exact H | (rw [hy314]; exact H) | exact H
            have Ny314 := Aside0.mk hy314
            clear hy314
            replace H := Option.bind_eq_some_iff.mp H
            obtain ⟨t317, A150, H⟩ := H
            replace H : (some t317) = some r := H
            have A15 := Aside0.mk A150
            clear A150
            obtain rfl := Option.some.inj H
            go_enter Try.func65, Try.ntmps65
            try go_wp2_with (first | ((with_reducible refine gate_callee (f := 55) rfl ?_); refine goesL_ (some 7) rfl rfl Try.func55 (by kernel_rfl) rfl #[.slice A0 l0.length c0] rfl (by (try simp only [List.map_toArray, List.map_cons, List.map_nil]); first | done | rfl | (simp only [List.length_drop, List.length_take]; rfl)) ?_; (with_reducible refine (impl_sorted.calls _ _ l0 t294 _ ?side1 ?side2 A2.out).mono ?_); (case side1 => repeat (first | exact HR0.out | (with_reducible refine Kd.C_alloc ?_ _) | (with_reducible refine Kd.C_drewN ?_ _) | (with_reducible refine Kd.C_drew ?_))); (case side2 => exact HC0.out); rintro e w16 ⟨v295, rfl, ho0, hb⟩; refine ⟨_, rfl, ?_⟩; have n0_ := Aside0.mk (Kd.R_lower ho0 (below_size (hb_))); have n1_ := Aside0.mk (below_step (hb_) hb); clear HB; have HO296 := n0_; have HB := n1_; clear n0_ n1_; (try clear hb); (try clear hb2); (try clear hk); (try clear hi); (try clear ho0); obtain ⟨Ao17, co17, eo17⟩ := Kd.R_slice HO296.out; subst eo17) | ((with_reducible refine gate_callee (f := 93) rfl ?_); refine goesL_ (some 13) rfl rfl Try.func93 (by kernel_rfl) rfl #[.slice Ao17 t294.length co17] rfl (by (try simp only [List.map_toArray, List.map_cons, List.map_nil]); first | done | rfl | (simp only [List.length_drop, List.length_take]; rfl)) ?_; (with_reducible refine (impl_chain.calls k _ _ t294 t297 _ ?side1 ?side2 A6.out).mono ?_); (case side1 => repeat (first | exact (Kd.R_reads' HO296.out).2.2 | (with_reducible refine Kd.C_alloc ?_ _) | (with_reducible refine Kd.C_drewN ?_ _) | (with_reducible refine Kd.C_drew ?_))); (case side2 => exact (Kd.R_reads' HO296.out).2.1); rintro e w18 ⟨v298, rfl, ho0, hb⟩; refine ⟨_, rfl, ?_⟩; have n0_ := Aside0.mk (Kd.R_elder' (rk_ HO296.out) (Kd.R_base ho0) hb); have n1_ := Aside0.mk (Kd.R_lower (Kd.R_new' ho0 (Kd.R_lt (rk_ HO296.out))) (below_size (hb_))); have n2_ := Aside0.mk (below_step (hb_) hb); clear HO296; clear HB; have HO296 := n0_; have HO299 := n1_; have HB := n2_; clear n0_ n1_ n2_; (try clear hb); (try clear hb2); (try clear hk); (try clear hi); (try clear ho0)) | ((with_reducible refine gate_callee (f := 94) rfl ?_); refine goesL_ (some 15) rfl rfl Try.func94 (by kernel_rfl) rfl #[.slice Ao17 t294.length co17] rfl (by (try simp only [List.map_toArray, List.map_cons, List.map_nil]); first | done | rfl | (simp only [List.length_drop, List.length_take]; rfl)) ?_; (with_reducible refine (slices_Reverse_impl_Peg_impl_Peg.calls (fun k_ => some k_ = (.slice Ao17 t294.length co17 : Value).ownBlock) (.slice Ao17 t294.length co17) t294 t300 w _ ?side1 ?side2 A7.out).mono ?_); (case side1 => repeat (first | (with_reducible first | exact HB.out | apply below_alloc | apply pw_below_drewN | apply below_drew1) | exact HB.out)); (case side2 => exact Kd.R_tight rfl HO296.out); rintro e w19 ⟨rfl, hy0, hb, hkp⟩; refine ⟨_, rfl, ?_⟩; have n0_ := Aside0.mk (Kd.R_reok rfl hy0 (fun k_ e_ => HO296.out.1 k_ e_)); have n1_ := Aside0.mk (Kd.R_mono (ok' := fun k_ => some k_ ≠ (.slice Ao17 t294.length co17 : Value).ownBlock) (Kd.R_keptB (HO299.out) hkp (fun k_ hk_ hs_ => (hk_.2) hs_)) (fun k_ hk_ => hk_.1.2)); have n2_ := Aside0.mk (hb); clear HO296; clear HO299; clear HB; have HO296 := n0_; have HO299 := n1_; have HB := n2_; clear n0_ n1_ n2_; (try clear hb); (try clear hkp); (try clear hy0)) | ((with_reducible refine gate_callee (f := 93) rfl ?_); refine goesL_ (some 17) rfl rfl Try.func93 (by kernel_rfl) rfl #[.slice Ao17 t300.length co17] rfl (by (try simp only [List.map_toArray, List.map_cons, List.map_nil]); first | done | (rw [show t300.length = t294.length from (Kd.R_reads' HO296.out).1.symm] <;> rfl) | rfl | (simp only [List.length_drop, List.length_take]; rfl)) ?_; (with_reducible refine (impl_chain.calls k _ _ t300 t301 _ ?side1 ?side2 A8.out).mono ?_); (case side1 => repeat (first | exact (Kd.R_reads' HO296.out).2.2 | (with_reducible refine Kd.C_alloc ?_ _) | (with_reducible refine Kd.C_drewN ?_ _) | (with_reducible refine Kd.C_drew ?_))); (case side2 => rw [show t300.length = t294.length from (Kd.R_reads' HO296.out).1.symm]; exact (Kd.R_reads' HO296.out).2.1); rintro e w20 ⟨v302, rfl, ho0, hb⟩; refine ⟨_, rfl, ?_⟩; have n0_ := Aside0.mk (Kd.R_elder' (rk_ HO296.out) (Kd.R_base ho0) hb); have n1_ := Aside0.mk (Kd.R_elder' (rk_ HO299.out) (Kd.R_base ho0) hb); have n2_ := Aside0.mk (Kd.R_lower (Kd.R_new' (Kd.R_new' ho0 (Kd.R_lt (rk_ HO296.out))) (Kd.R_lt (rk_ HO299.out))) (below_size (hb_))); have n3_ := Aside0.mk (below_step (hb_) hb); clear HO296; clear HO299; clear HB; have HO296 := n0_; have HO299 := n1_; have HO303 := n2_; have HB := n3_; clear n0_ n1_ n2_ n3_; (try clear hb); (try clear hb2); (try clear hk); (try clear hi); (try clear ho0)))
            have n0_ := Aside0.mk (Kd.R_drew HO296.out)
            have n1_ := Aside0.mk (Kd.R_drew HO299.out)
            have n2_ := Aside0.mk (Kd.R_drew HO303.out)
            have n3_ := Aside0.mk (below_drew1 HB.out)
            clear HO296
            clear HO299
            clear HO303
            clear HB
            have HO296 := n0_
            have HO299 := n1_
            have HO303 := n2_
            have HB := n3_
            clear n0_ n1_ n2_ n3_
            obtain ⟨Ao22, co22, eo22⟩ := Kd.R_slice HO299.out
            (first | subst eo22 | (injection eo22 with f1_ f2_ f3_; have f4_ := f1_.symm; have f5_ := f3_.symm; clear f1_ f2_ f3_; subst f4_; subst f5_))
            have q23 : ((ji9) : Int) ≤ ((t297.length : Int) : Int) := odt_
            obtain ⟨i023, hi023, _, hsz23, _⟩ := info_parts info34
            have hroom23 : t297.length ≤ co22 := (Kd.R_reads' HO299.out).2.1
            have hC23 : Kd.F k34 _ _ Ao22 t297.length t297 := (Kd.V_at (base := w.heap.size) (Kd.R_V HO299.out)).2.2
            have hcut23 := cut_to (P := Try.prog) 25 34 .i64 Try.underlying25 hi023 Ao22 t297.length co22 (ji9) (odt_) q23 hroom23
            have hr23 := Kd.F_take (m := ((ji9) : Int).toNat) hC23 (by omega)
            have hy23 : y304.length = ((ji9) : Int).toNat := (by rw [Ny304.out, List.length_take]; omega)
            rw [← Ny304.out] at hr23
            rw [← hy23] at hcut23
            have HO308 := Aside0.mk (show Kd.V k34 34 _ w.heap.size _ (.slice Ao22 y304.length co22) y304 from Kd.V_mk (by omega) hr23)
            have HC308 := Aside0.mk (show y304.length ≤ co22 from by omega)
            clear hr23 hC23 hroom23 hi023 hsz23
            have KY23 := Aside0.mk hy23
            clear hy23
            replace q23 := eq_true q23
            obtain ⟨Ao24, co24, eo24⟩ := Kd.R_slice HO303.out
            (first | subst eo24 | (injection eo24 with f1_ f2_ f3_; have f4_ := f1_.symm; have f5_ := f3_.symm; clear f1_ f2_ f3_; subst f4_; subst f5_))
            have q25 : ((ji12) : Int) ≤ ((t301.length : Int) : Int) := odt_
            obtain ⟨i025, hi025, _, hsz25, _⟩ := info_parts info34
            have hroom25 : t301.length ≤ co24 := (Kd.R_reads' HO303.out).2.1
            have hC25 : Kd.F k34 _ _ Ao24 t301.length t301 := (Kd.V_at (base := w.heap.size) (Kd.R_V HO303.out)).2.2
            have hcut25 := cut_to (P := Try.prog) 25 34 .i64 Try.underlying25 hi025 Ao24 t301.length co24 (ji12) (odt_) q25 hroom25
            have hr25 := Kd.F_take (m := ((ji12) : Int).toNat) hC25 (by omega)
            have hy25 : y309.length = ((ji12) : Int).toNat := (by rw [Ny309.out, List.length_take]; omega)
            rw [← Ny309.out] at hr25
            rw [← hy25] at hcut25
            have HO313 := Aside0.mk (show Kd.V k34 34 _ w.heap.size _ (.slice Ao24 y309.length co24) y309 from Kd.V_mk (by omega) hr25)
            have HC313 := Aside0.mk (show y309.length ≤ co24 from by omega)
            clear hr25 hC25 hroom25 hi025 hsz25
            have KY25 := Aside0.mk hy25
            clear hy25
            replace q25 := eq_true q25
            refine start_ (n := 13) (S := fun w' => True) (ds := []) #[false, false, false, false, false, false, false, false, false, false, false, false, false] (by kernel_rfl) rfl rfl trivial (fun hHeld => ?_); refine with_tabW impl_band.tab7 impl_band.bits7 (fun HT_ HW_ => ?_)
            generalize w20.drew = w21 at HO296 HO299 HO303 HB HO308 HO313 hHeld ⊢
            refine pure_ (i := 0) (N := some 18) (v := ?_) (a' := ?_) #[true, false, false, false, false, false, false, false, false, false, false, false, false] rfl rfl (any_of HT_.out (by kernel_rfl)) (fun _ _ _ h => h) (Or.inl ⟨by rfl, ?_⟩) ?_ ?_
            rotate_left
            · intro w'
              go_simp
              with_reducible rfl
            rotate_left
            · simp only [Act.put, sA, sB, sC, i64_w, i32_w]
              rfl
            refine pure_ (i := 1) (N := some 19) (v := ?_) (a' := ?_) #[true, true, false, false, false, false, false, false, false, false, false, false, false] rfl rfl (any_of HT_.out (by kernel_rfl)) (fun _ _ _ h => h) (Or.inl ⟨by rfl, ?_⟩) ?_ ?_
            rotate_left
            · intro w'
              go_simp
              with_reducible rfl
            rotate_left
            · simp only [Act.put, sA, sB, sC, i64_w, i32_w]
              rfl
            refine pure_ (i := 2) (N := some 20) (v := ?_) (a' := ?_) #[true, true, true, false, false, false, false, false, false, false, false, false, false] rfl rfl (any_of HT_.out (by kernel_rfl)) (fun _ _ _ h => h) (Or.inl ⟨by rfl, ?_⟩) ?_ ?_
            rotate_left
            · intro w'
              go_simp
              with_reducible rfl
            rotate_left
            · simp only [Act.put, sA, sB, sC, i64_w, i32_w]
              rfl
            refine pure_ (i := 3) (N := some 21) (v := ?_) (a' := ?_) #[true, true, true, true, false, false, false, false, false, false, false, false, false] rfl rfl (any_of HT_.out (by kernel_rfl)) (fun _ _ _ h => h) (Or.inl ⟨by rfl, ?_⟩) ?_ ?_
            rotate_left
            · intro w'
              go_simp
              with_reducible rfl
            rotate_left
            · simp only [Act.put, sA, sB, sC, i64_w, i32_w]
              rfl
            refine pure_ (i := 4) (N := some 22) (v := ?_) (a' := ?_) #[true, true, true, true, true, false, false, false, false, false, false, false, false] rfl rfl (any_of HT_.out (by kernel_rfl)) (fun _ _ _ h => h) (Or.inl ⟨by rfl, ?_⟩) ?_ ?_
            rotate_left
            · intro w'
              go_simp
              with_reducible rfl
            rotate_left
            · simp only [Act.put, sA, sB, sC, i64_w, i32_w]
              rfl
            refine pure_ (i := 5) (N := some 23) (v := ?_) (a' := ?_) #[true, true, true, true, true, true, false, false, false, false, false, false, false] rfl rfl (any_of HT_.out (by kernel_rfl)) (fun _ _ _ h => h) (Or.inl ⟨by rfl, ?_⟩) ?_ ?_
            rotate_left
            · intro w'
              go_simp
              with_reducible rfl
            rotate_left
            · simp only [Act.put, sA, sB, sC, i64_w, i32_w]
              rfl
            refine pure_ (i := 6) (N := some 24) (v := ?_) (a' := ?_) #[true, true, true, true, true, true, true, false, false, false, false, false, false] rfl rfl (any_of HT_.out (by kernel_rfl)) (fun _ _ _ h => h) (Or.inl ⟨by rfl, ?_⟩) ?_ ?_
            rotate_left
            · intro w'
              go_simp
              with_reducible rfl
            rotate_left
            · simp only [Act.put, sA, sB, sC, i64_w, i32_w]
              rfl
            refine pure_ (i := 7) (N := some 25) (v := ?_) (a' := ?_) #[true, true, true, true, true, true, true, true, false, false, false, false, false] rfl rfl (any_of HT_.out (by kernel_rfl)) (fun _ _ _ h => h) (Or.inl ⟨by rfl, ?_⟩) ?_ ?_
            rotate_left
            · intro w'
              go_simp
              with_reducible rfl
            rotate_left
            · simp only [Act.put, sA, sB, sC, i64_w, i32_w]
              rfl
            refine pure_ (i := 8) (N := some 26) (v := ?_) (a' := ?_) #[true, true, true, true, true, true, true, true, true, false, false, false, false] rfl rfl (any_of HT_.out (by kernel_rfl)) (fun _ _ _ h => h) (Or.inl ⟨by rfl, ?_⟩) ?_ ?_
            rotate_left
            · intro w'
              go_simp
              with_reducible rfl
            rotate_left
            · simp only [Act.put, sA, sB, sC, i64_w, i32_w]
              rfl
            refine pure_ (i := 9) (N := some 27) (v := ?_) (a' := ?_) #[true, true, true, true, true, true, true, true, true, true, false, false, false] rfl rfl (any_of HT_.out (by kernel_rfl)) (fun _ _ _ h => h) (Or.inl ⟨by rfl, ?_⟩) ?_ ?_
            rotate_left
            · intro w'
              go_simp
              with_reducible rfl
            rotate_left
            · simp only [Act.put, sA, sB, sC, i64_w, i32_w]
              rfl
            refine one_ (i := 10) (N := some 28) #[true, true, true, true, true, true, true, true, true, true, true, false, false] rfl rfl (one_of HT_.out (by kernel_rfl)) (by decide) (fun K hK => ?_)
            refine Kd.N_lit_step (Kd.slice 34 k34) _ 25 ?hg (N' := 28) ?hd (xs := ([y304, y309] : List (List (S34)))) (inner := [.slice Ao22 y304.length co22, .slice Ao24 y309.length co24]) (ok := (fun k_ => some k_ ≠ (.slice Ao17 t294.length co17 : Value).ownBlock)) (okp := (fun k_ => some k_ ≠ (.slice Ao17 t294.length co17 : Value).ownBlock)) ?hr ?hp (fun _ hk => hk) ((show ∀ k_, w21.heap.size ≤ k_ → (fun k_ => some k_ ≠ (.slice Ao17 t294.length co17 : Value).ownBlock) k_ from fun k_ hk => Kd.fresh' (Kd.R_lt (rk_ HO296.out)) k_ hk) _ (Nat.le_refl _)) (Below.refl _ _) (Nat.le_refl _) (by simp) ?_; (case hd => rfl); (case hg => rfl); (case hr => first | (go_simp; done) | (go_simp; rfl)); (case hp => exact (Reps.one (show Kd.FK (Kd.slice 34 k34) _ _ y304 [.slice Ao22 y304.length co22] from (Kd.FK_slice_mk (Kd.V_reads' (Kd.V_mono (ok' := (fun k_ => some k_ ≠ (.slice Ao17 t294.length co17 : Value).ownBlock)) (HO308.out) (fun k_ hk => hk.1))).2.1 (Kd.V_F (Kd.V_mono (ok' := (fun k_ => some k_ ≠ (.slice Ao17 t294.length co17 : Value).ownBlock)) (HO308.out) (fun k_ hk => hk.1))))) (Reps.one (show Kd.FK (Kd.slice 34 k34) _ _ y309 [.slice Ao24 y309.length co24] from (Kd.FK_slice_mk (Kd.V_reads' (Kd.V_mono (ok' := (fun k_ => some k_ ≠ (.slice Ao17 t294.length co17 : Value).ownBlock)) (HO313.out) (fun k_ hk => hk.1.2))).2.1 (Kd.V_F (Kd.V_mono (ok' := (fun k_ => some k_ ≠ (.slice Ao17 t294.length co17 : Value).ownBlock)) (HO313.out) (fun k_ hk => hk.1.2))))) (Reps.none _ _))))
            intro v315 w26 ho27 hb hg_ hnew_
            clear hg_ hnew_
            (first | rw [← Ny314.out] at ho27 | (simp only [Int.reduceToNat] at ho27; rw [← Ny314.out] at ho27))
            have n0_ := Aside0.mk (Kd.R_below (rk_ HO296.out) hb)
            have n1_ := Aside0.mk (Kd.R_below (rk_ HO299.out) hb)
            have n2_ := Aside0.mk (Kd.R_below (rk_ HO303.out) hb)
            have n3_ := Aside0.mk (Kd.V_elder' (by (with_reducible repeat (first | apply Kd.V_alloc | apply Kd.V_drewN | apply Kd.V_drew)); exact HO308.out) (Kd.N_base ho27) hb)
            have n4_ := Aside0.mk (Kd.V_elder' (by (with_reducible repeat (first | apply Kd.V_alloc | apply Kd.V_drewN | apply Kd.V_drew)); exact HO313.out) (Kd.N_base ho27) hb)
            have n5_ := Aside0.mk (Kd.N_lower ho27 (below_size (hb_)))
            have n6_ := Aside0.mk (below_step (hb_) hb)
            clear HO296
            clear HO299
            clear HO303
            clear HO308
            clear HO313
            clear HB
            have HO296 := n0_
            have HO299 := n1_
            have HO303 := n2_
            have HO308 := n3_
            have HO313 := n4_
            have HO316 := n5_
            have HB := n6_
            clear n0_ n1_ n2_ n3_ n4_ n5_ n6_
            clear hb ho27
            obtain ⟨Ao28, co28, eo28⟩ := Kd.N_slice HO316.out
            (first | subst eo28 | (injection eo28 with f1_ f2_ f3_; have f4_ := f1_.symm; have f5_ := f3_.symm; clear f1_ f2_ f3_; subst f4_; subst f5_))
            refine hK.out _ _ trivial (fun hHeld => ?_)
            clear hK K
            refine norm_ (a' := ?_) ?_ ?_
            rotate_left
            · show Act.put _ (some 28) _ = _
              simp only [Act.put, sA, sB, sC, i64_w, i32_w]
              rfl
            refine one_ (i := 11) (N := some 29) #[true, true, true, true, true, true, true, true, true, true, true, true, false] rfl rfl (one_of HT_.out (by kernel_rfl)) (by decide) (fun K hK => ?_)
            refine goes_ Try.func67 (by kernel_rfl) rfl #[.slice Ao28 y314.length co28] (by rfl) rfl rfl (by (try simp only [List.map_toArray, List.map_cons, List.map_nil]); first | done | rfl | (simp only [List.length_drop, List.length_take]; rfl)) ?_
            with_reducible refine (slices_Concat_impl_Peg_impl_Peg.calls k _ _ y314 t317 _ ?side1 ?side2 A15.out).mono ?_
            (case side1 => repeat (first | exact (Kd.N_reads' HO316.out).2.2 | (with_reducible refine Kd.C_alloc ?_ _) | (with_reducible refine Kd.C_drewN ?_ _) | (with_reducible refine Kd.C_drew ?_)))
            (case side2 => exact (Kd.N_reads' HO316.out).2.1)
            rintro e w29 ⟨v318, rfl, ho0, hb⟩
            refine ⟨_, rfl, ?_⟩
            have n0_ := Aside0.mk (Kd.R_elder' (rk_ HO296.out) (Kd.R_base ho0) hb)
            have n1_ := Aside0.mk (Kd.R_elder' (rk_ HO299.out) (Kd.R_base ho0) hb)
            have n2_ := Aside0.mk (Kd.R_elder' (rk_ HO303.out) (Kd.R_base ho0) hb)
            have n3_ := Aside0.mk (Kd.V_elder' (by (with_reducible repeat (first | apply Kd.V_alloc | apply Kd.V_drewN | apply Kd.V_drew)); exact HO308.out) (Kd.R_base ho0) hb)
            have n4_ := Aside0.mk (Kd.V_elder' (by (with_reducible repeat (first | apply Kd.V_alloc | apply Kd.V_drewN | apply Kd.V_drew)); exact HO313.out) (Kd.R_base ho0) hb)
            have n5_ := Aside0.mk (Kd.N_elder' (by (with_reducible repeat (first | apply Kd.N_alloc | apply Kd.N_drewN | apply Kd.N_drew)); exact HO316.out) (Kd.R_base ho0) hb)
            have n6_ := Aside0.mk (Kd.R_lower (Kd.R_new' (Kd.R_new' (Kd.R_new' ho0 (Kd.R_lt (rk_ HO296.out))) (Kd.R_lt (rk_ HO299.out))) (Kd.R_lt (rk_ HO303.out))) (below_size (hb_)))
            have n7_ := Aside0.mk (below_step (hb_) hb)
            clear HO296
            clear HO299
            clear HO303
            clear HO308
            clear HO313
            clear HO316
            clear HB
            have HO296 := n0_
            have HO299 := n1_
            have HO303 := n2_
            have HO308 := n3_
            have HO313 := n4_
            have HO316 := n5_
            have HO319 := n6_
            have HB := n7_
            clear n0_ n1_ n2_ n3_ n4_ n5_ n6_ n7_
            (try clear hb)
            (try clear hb2)
            (try clear hk)
            (try clear hi)
            (try clear ho0)
            refine hK.out _ _ trivial (fun hHeld => ?_)
            clear hK K
            refine norm_ (a' := ?_) ?_ ?_
            rotate_left
            · show Act.put _ (some 29) _ = _
              simp only [Act.put, sA, sB, sC, i64_w, i32_w]
              rfl
            refine pure_ (i := 12) (N := some 2) (v := ?_) (a' := ?_) #[true, true, true, true, true, true, true, true, true, true, true, true, true] rfl rfl (any_of HT_.out (by kernel_rfl)) (fun _ _ _ h => h) (Or.inl ⟨by rfl, ?_⟩) ?_ ?_
            rotate_left
            · intro w'
              go_simp
              with_reducible rfl
            rotate_left
            · simp only [Act.put, sA, sB, sC, i64_w, i32_w]
              rfl
            refine done_ (done_of HT_.out (by kernel_rfl)) ?_
            try go_wp2
            go_ret
            exact ⟨_, by first | rfl | (simp [errW_none, errW_some] <;> rfl) | (simp only [← hji9, ← hji12]; first | rfl | (simp [errW_none, errW_some] <;> rfl)) | (simp [*, errW_none, errW_some] <;> rfl), by (with_reducible repeat (first | apply Kd.R_alloc | apply Kd.R_drewN | apply Kd.R_drew)); exact Kd.R_mono HO319.out (fun _ hk => trivial), hb_⟩
          · rw [if_neg c14] at H
            exact absurd H (by simp)
        · rw [if_neg c13] at H
          exact absurd H (by simp)
      · rw [if_neg c11] at H
        exact absurd H (by simp)
    · rw [if_neg c10] at H
      exact absurd H (by simp)

end Go.Proofs.Ytaclbccjcjdbpaa.MY
