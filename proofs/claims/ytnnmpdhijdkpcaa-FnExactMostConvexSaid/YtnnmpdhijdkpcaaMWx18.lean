-- Written by a program of this session (wip/print/myprint.py) over the kit's printer; Lean checks it.
import Derived.Test.YtnnmpdhijdkpcaaMWx0
import Derived.Test.YtnnmpdhijdkpcaaMWx15
import Derived.Test.YtnnmpdhijdkpcaaMWx16
import Derived.Test.YtnnmpdhijdkpcaaMWx17
namespace Go.Proofs.Ytnnmpdhijdkpcaa.MW
open Go.RowKit Go.Proofs.YtnnmpdhijdkpcaaW.PrintWords Go.Proofs.YtnnmpdhijdkpcaaW.PrintLast Go.Proofs.YtnnmpdhijdkpcaaW.PrintMore Go.Proofs.YtnnmpdhijdkpcaaV
attribute [local go_sem] max2_int min2_int max_two min_two max_three min_three max_four min_four   -- for this text's walks alone
set_option linter.unusedVariables false
set_option linter.unusedSimpArgs false

/-! ### impl_band: function 29 -/
def impl_band.f (k : Nat) (l0 : List (S37)) : Option ((List (S37))) := (impl_sorted.f l0).bind fun t271 => (if (t271.length : Int) = 1 then (some t271) else ((impl_chain.f k t271).bind fun t274 => ((slices_Reverse_impl_Peg_impl_Peg.f t271).bind fun t277 => ((impl_chain.f k t277).bind fun t278 => (if 0 ≤ (wrap64 ((t274.length : Int) - 1)) then (if (wrap64 ((t274.length : Int) - 1)) ≤ (t274.length : Int) then (if 0 ≤ (wrap64 ((t278.length : Int) - 1)) then (if (wrap64 ((t278.length : Int) - 1)) ≤ (t278.length : Int) then ((slices_Concat_impl_Peg_impl_Peg.f k (([(t274.take ((wrap64 ((t274.length : Int) - 1)) : Int).toNat), (t278.take ((wrap64 ((t278.length : Int) - 1)) : Int).toNat)] : List (List (S37))))).bind fun t294 => (some t294)) else (none)) else (none)) else (none)) else (none))))))
theorem impl_band.mono : ∀ a0 k, LeO (impl_band.f k a0) (impl_band.f (k + 1) a0) := by
 intro a0 k
 unfold impl_band.f
 repeat' first
   | (with_reducible exact impl_chain.mono _ _)
   | (with_reducible exact slices_Concat_impl_Peg_impl_Peg.mono _ _)
   | (with_reducible exact LeO.refl _)
   | (with_reducible exact LeO.none _)
   | (with_reducible refine LeO.ite ?_ ?_)
   | (with_reducible refine LeO.bind ?_ (fun _ => ?_))
   | exact impl_chain.mono _ _
   | exact slices_Concat_impl_Peg_impl_Peg.mono _ _
   | exact LeO.none _
   | refine LeO.ite ?_ ?_
   | refine LeO.bind ?_ (fun _ => ?_)
def impl_band.T7 : Bool × List (List Nat × List Nat) := (true, [([], []), ([], []), ([1], [1]), ([2], [2]), ([0, 3], [0, 3]), ([], []), ([], []), ([6], [6]), ([7], [7]), ([5, 8], [5, 8]), ([4, 9], [4, 9]), ([10], [10]), ([11, 11, 0, 1, 2, 3, 4, 5, 6, 7, 8, 9, 10, 11], [11])])
def impl_band.B7 : List Nat := [0, 0, 2, 6, 15, 0, 0, 64, 192, 480, 1023, 2047, 4095]
theorem impl_band.tab7 : rtab .any (opsOf Try.f29 7) = impl_band.T7 := by kernel_rfl
theorem impl_band.bits7 : waitsOk impl_band.T7.2 impl_band.B7 = true := by kernel_rfl
set_option maxHeartbeats 8000000 in
set_option maxRecDepth 100000 in
theorem impl_band.calls (k : Nat) (A0 : Option Addr) (c0 : Nat) (l0 : List (S37)) (r : List (S37)) (w : World) (hr0 : Kd.C k37 w A0 l0.length l0) (hc0 : l0.length ≤ c0) (h : impl_band.f k l0 = some r) :
  Calls Try.prog 29 #[.slice A0 l0.length c0] w fun e w' => ∃ v0_ : Value, e = .returned (v0_) ∧ Kd.R k37 37 w' w.heap.size (fun _ => True) v0_ r ∧ Below w.heap.size w w' := by
 have HR0 := Aside0.mk hr0
 have HC0 := Aside0.mk hc0
 clear hr0 hc0
 have HB := Aside0.mk (Below.refl w.heap.size w)
 have H : ((impl_sorted.f l0).bind fun t271 => (if (t271.length : Int) = 1 then (some t271) else ((impl_chain.f k t271).bind fun t274 => ((slices_Reverse_impl_Peg_impl_Peg.f t271).bind fun t277 => ((impl_chain.f k t277).bind fun t278 => (if 0 ≤ (wrap64 ((t274.length : Int) - 1)) then (if (wrap64 ((t274.length : Int) - 1)) ≤ (t274.length : Int) then (if 0 ≤ (wrap64 ((t278.length : Int) - 1)) then (if (wrap64 ((t278.length : Int) - 1)) ≤ (t278.length : Int) then ((slices_Concat_impl_Peg_impl_Peg.f k (([(t274.take ((wrap64 ((t274.length : Int) - 1)) : Int).toNat), (t278.take ((wrap64 ((t278.length : Int) - 1)) : Int).toNat)] : List (List (S37))))).bind fun t294 => (some t294)) else (none)) else (none)) else (none)) else (none))))))) = some r := h
 clear h
 replace H := Option.bind_eq_some_iff.mp H
 obtain ⟨t271, A20, H⟩ := H
 replace H : (if (t271.length : Int) = 1 then (some t271) else ((impl_chain.f k t271).bind fun t274 => ((slices_Reverse_impl_Peg_impl_Peg.f t271).bind fun t277 => ((impl_chain.f k t277).bind fun t278 => (if 0 ≤ (wrap64 ((t274.length : Int) - 1)) then (if (wrap64 ((t274.length : Int) - 1)) ≤ (t274.length : Int) then (if 0 ≤ (wrap64 ((t278.length : Int) - 1)) then (if (wrap64 ((t278.length : Int) - 1)) ≤ (t278.length : Int) then ((slices_Concat_impl_Peg_impl_Peg.f k (([(t274.take ((wrap64 ((t274.length : Int) - 1)) : Int).toNat), (t278.take ((wrap64 ((t278.length : Int) - 1)) : Int).toNat)] : List (List (S37))))).bind fun t294 => (some t294)) else (none)) else (none)) else (none)) else (none)))))) = some r := H
 have A2 := Aside0.mk A20
 clear A20
 by_cases c3 : (t271.length : Int) = 1
 ·rw [if_pos c3] at H
  have c3b0 : ((t271.length : Int) == 1) = true := beq_iff_eq.mpr c3
  have c3b1 : ((t271.length : Int) != 1) = false := bne_eq_false_iff_eq.mpr c3
  clear c3
  obtain rfl := Option.some.inj H
  go_enter Try.func29, Try.ntmps29
  go_wp2_with (first | ((with_reducible refine gate_callee (f := 22) rfl ?_); refine goesL_ (some 7) rfl rfl Try.func22 (by kernel_rfl) rfl #[.slice A0 l0.length c0] rfl ga_ ?_; (with_reducible refine (impl_sorted.calls _ _ l0 t271 _ ?side1 ?side2 A2.out).mono ?_); (case side1 => repeat (first | exact HR0.out | (with_reducible refine Kd.C_alloc ?_ _) | (with_reducible refine Kd.C_drewN ?_ _) | (with_reducible refine Kd.C_drew ?_))); (case side2 => exact HC0.out); rintro e w4 ⟨v272, rfl, ho0, hb⟩; refine ⟨_, rfl, ?_⟩; have n0_ := Aside0.mk (Kd.R_lower ho0 (below_size (hb_))); have n1_ := Aside0.mk (below_step (hb_) hb); clear HB; have HO273 := n0_; have HB := n1_; clear n0_ n1_; (try clear hb); (try clear hb2); (try clear hk); (try clear hi); (try clear ho0); obtain ⟨Ao5, co5, eo5⟩ := Kd.R_slice HO273.out; subst eo5))
  go_ret
  exact ⟨_, by first | rfl | (simp [errW_none, errW_some] <;> rfl) | (simp [*, errW_none, errW_some] <;> rfl), by (with_reducible repeat (first | apply Kd.R_alloc | apply Kd.R_drewN | apply Kd.R_drew)); exact HO273.out, hb_⟩
 ·rw [if_neg c3] at H
  have c3b0 : ((t271.length : Int) == 1) = false := beq_eq_false_iff_ne.mpr c3
  have c3b1 : ((t271.length : Int) != 1) = true := bne_iff_ne.mpr c3
  replace H := Option.bind_eq_some_iff.mp H
  obtain ⟨t274, A60, H⟩ := H
  replace H : ((slices_Reverse_impl_Peg_impl_Peg.f t271).bind fun t277 => ((impl_chain.f k t277).bind fun t278 => (if 0 ≤ (wrap64 ((t274.length : Int) - 1)) then (if (wrap64 ((t274.length : Int) - 1)) ≤ (t274.length : Int) then (if 0 ≤ (wrap64 ((t278.length : Int) - 1)) then (if (wrap64 ((t278.length : Int) - 1)) ≤ (t278.length : Int) then ((slices_Concat_impl_Peg_impl_Peg.f k (([(t274.take ((wrap64 ((t274.length : Int) - 1)) : Int).toNat), (t278.take ((wrap64 ((t278.length : Int) - 1)) : Int).toNat)] : List (List (S37))))).bind fun t294 => (some t294)) else (none)) else (none)) else (none)) else (none)))) = some r := H
  have A6 := Aside0.mk A60
  clear A60
  replace H := Option.bind_eq_some_iff.mp H
  obtain ⟨t277, A70, H⟩ := H
  replace H : ((impl_chain.f k t277).bind fun t278 => (if 0 ≤ (wrap64 ((t274.length : Int) - 1)) then (if (wrap64 ((t274.length : Int) - 1)) ≤ (t274.length : Int) then (if 0 ≤ (wrap64 ((t278.length : Int) - 1)) then (if (wrap64 ((t278.length : Int) - 1)) ≤ (t278.length : Int) then ((slices_Concat_impl_Peg_impl_Peg.f k (([(t274.take ((wrap64 ((t274.length : Int) - 1)) : Int).toNat), (t278.take ((wrap64 ((t278.length : Int) - 1)) : Int).toNat)] : List (List (S37))))).bind fun t294 => (some t294)) else (none)) else (none)) else (none)) else (none))) = some r := H
  have A7 := Aside0.mk A70
  clear A70
  replace H := Option.bind_eq_some_iff.mp H
  obtain ⟨t278, A80, H⟩ := H
  replace H : (if 0 ≤ (wrap64 ((t274.length : Int) - 1)) then (if (wrap64 ((t274.length : Int) - 1)) ≤ (t274.length : Int) then (if 0 ≤ (wrap64 ((t278.length : Int) - 1)) then (if (wrap64 ((t278.length : Int) - 1)) ≤ (t278.length : Int) then ((slices_Concat_impl_Peg_impl_Peg.f k (([(t274.take ((wrap64 ((t274.length : Int) - 1)) : Int).toNat), (t278.take ((wrap64 ((t278.length : Int) - 1)) : Int).toNat)] : List (List (S37))))).bind fun t294 => (some t294)) else (none)) else (none)) else (none)) else (none)) = some r := H
  have A8 := Aside0.mk A80
  clear A80
  obtain ⟨ji9, hji9⟩ : ∃ j_ : Int, (wrap64 ((t274.length : Int) - 1)) = j_ := ⟨_, rfl⟩
  replace H : (if 0 ≤ (ji9) then (if (ji9) ≤ (t274.length : Int) then (if 0 ≤ (wrap64 ((t278.length : Int) - 1)) then (if (wrap64 ((t278.length : Int) - 1)) ≤ (t278.length : Int) then ((slices_Concat_impl_Peg_impl_Peg.f k (([(t274.take ((ji9) : Int).toNat), (t278.take ((wrap64 ((t278.length : Int) - 1)) : Int).toNat)] : List (List (S37))))).bind fun t294 => (some t294)) else (none)) else (none)) else (none)) else (none)) = some r := by first | (rw [hji9] at H; exact H) | (simp only [hji9] at H ⊢; exact H)
  (try rw [hji9] at A2)
  (try rw [hji9] at A6)
  (try rw [hji9] at A7)
  (try rw [hji9] at A8)
  have hji9w : (IntKind.i64.wrap ((t274.length : Int) - 1)) = ji9 := (i64_w _).trans hji9
  by_cases c10 : 0 ≤ (ji9)
  ·rw [if_pos c10] at H
   have c10b0 := eq_true c10
   have c10b1 : decide (0 ≤ (ji9)) = true := decide_eq_true c10
   clear c10
   by_cases c11 : (ji9) ≤ (t274.length : Int)
   ·rw [if_pos c11] at H
    have c11b0 := eq_true c11
    have c11b1 : decide ((ji9) ≤ (t274.length : Int)) = true := decide_eq_true c11
    clear c11
    obtain ⟨y281, hy281⟩ : ∃ y_ : List (S37), y_ = (t274.take ((ji9) : Int).toNat) := ⟨_, rfl⟩
    replace H : (if 0 ≤ (wrap64 ((t278.length : Int) - 1)) then (if (wrap64 ((t278.length : Int) - 1)) ≤ (t278.length : Int) then ((slices_Concat_impl_Peg_impl_Peg.f k (([y281, (t278.take ((wrap64 ((t278.length : Int) - 1)) : Int).toNat)] : List (List (S37))))).bind fun t294 => (some t294)) else (none)) else (none)) = some r := by first | (rw [hy281]; with_reducible exact H) | (have H2_ := (Option.bind_some _ _).symm.trans H; rw [hy281]; with_reducible exact H2_) | (have H2_ := (Option.bind_some _ _).symm.trans H; with_reducible exact H2_) | with_reducible exact H | (rw [hy281]; exact H) | exact H
    have Ny281 := Aside0.mk hy281
    clear hy281
    obtain ⟨ji12, hji12⟩ : ∃ j_ : Int, (wrap64 ((t278.length : Int) - 1)) = j_ := ⟨_, rfl⟩
    replace H : (if 0 ≤ (ji12) then (if (ji12) ≤ (t278.length : Int) then ((slices_Concat_impl_Peg_impl_Peg.f k (([y281, (t278.take ((ji12) : Int).toNat)] : List (List (S37))))).bind fun t294 => (some t294)) else (none)) else (none)) = some r := by first | (rw [hji12] at H; exact H) | (simp only [hji12] at H ⊢; exact H)
    (try rw [hji12] at A2)
    (try rw [hji12] at A6)
    (try rw [hji12] at A7)
    (try rw [hji12] at A8)
    have hji12w : (IntKind.i64.wrap ((t278.length : Int) - 1)) = ji12 := (i64_w _).trans hji12
    by_cases c13 : 0 ≤ (ji12)
    ·rw [if_pos c13] at H
     have c13b0 := eq_true c13
     have c13b1 : decide (0 ≤ (ji12)) = true := decide_eq_true c13
     clear c13
     by_cases c14 : (ji12) ≤ (t278.length : Int)
     ·rw [if_pos c14] at H
      have c14b0 := eq_true c14
      have c14b1 : decide ((ji12) ≤ (t278.length : Int)) = true := decide_eq_true c14
      clear c14
      obtain ⟨y286, hy286⟩ : ∃ y_ : List (S37), y_ = (t278.take ((ji12) : Int).toNat) := ⟨_, rfl⟩
      replace H : ((slices_Concat_impl_Peg_impl_Peg.f k (([y281, y286] : List (List (S37))))).bind fun t294 => (some t294)) = some r := by first | (rw [hy286]; with_reducible exact H) | (have H2_ := (Option.bind_some _ _).symm.trans H; rw [hy286]; with_reducible exact H2_) | (have H2_ := (Option.bind_some _ _).symm.trans H; with_reducible exact H2_) | with_reducible exact H | (rw [hy286]; exact H) | exact H
      have Ny286 := Aside0.mk hy286
      clear hy286
      obtain ⟨y291, hy291⟩ : ∃ y_ : List (List (S37)), y_ = (([y281, y286] : List (List (S37)))) := ⟨_, rfl⟩
      replace H : ((slices_Concat_impl_Peg_impl_Peg.f k y291).bind fun t294 => (some t294)) = some r := by first | (rw [hy291]; with_reducible exact H) | (have H2_ := (Option.bind_some _ _).symm.trans H; rw [hy291]; with_reducible exact H2_) | (have H2_ := (Option.bind_some _ _).symm.trans H; with_reducible exact H2_) | with_reducible exact H | (rw [hy291]; exact H) | exact H
      have Ny291 := Aside0.mk hy291
      clear hy291
      replace H := Option.bind_eq_some_iff.mp H
      obtain ⟨t294, A150, H⟩ := H
      replace H : (some t294) = some r := H
      have A15 := Aside0.mk A150
      clear A150
      obtain rfl := Option.some.inj H
      go_enter Try.func29, Try.ntmps29
      try go_wp2_with (first | ((with_reducible refine gate_callee (f := 22) rfl ?_); refine goesL_ (some 7) rfl rfl Try.func22 (by kernel_rfl) rfl #[.slice A0 l0.length c0] rfl ga_ ?_; (with_reducible refine (impl_sorted.calls _ _ l0 t271 _ ?side1 ?side2 A2.out).mono ?_); (case side1 => repeat (first | exact HR0.out | (with_reducible refine Kd.C_alloc ?_ _) | (with_reducible refine Kd.C_drewN ?_ _) | (with_reducible refine Kd.C_drew ?_))); (case side2 => exact HC0.out); rintro e w16 ⟨v272, rfl, ho0, hb⟩; refine ⟨_, rfl, ?_⟩; have n0_ := Aside0.mk (Kd.R_lower ho0 (below_size (hb_))); have n1_ := Aside0.mk (below_step (hb_) hb); clear HB; have HO273 := n0_; have HB := n1_; clear n0_ n1_; (try clear hb); (try clear hb2); (try clear hk); (try clear hi); (try clear ho0); obtain ⟨Ao17, co17, eo17⟩ := Kd.R_slice HO273.out; subst eo17) | ((with_reducible refine gate_callee (f := 41) rfl ?_); refine goesL_ (some 13) rfl rfl Try.func41 (by kernel_rfl) rfl #[.slice Ao17 t271.length co17] rfl ga_ ?_; (with_reducible refine (impl_chain.calls k _ _ t271 t274 _ ?side1 ?side2 A6.out).mono ?_); (case side1 => repeat (first | exact (Kd.R_reads' HO273.out).2.2 | (with_reducible refine Kd.C_alloc ?_ _) | (with_reducible refine Kd.C_drewN ?_ _) | (with_reducible refine Kd.C_drew ?_))); (case side2 => exact (Kd.R_reads' HO273.out).2.1); rintro e w18 ⟨v275, rfl, ho0, hb⟩; refine ⟨_, rfl, ?_⟩; have n0_ := Aside0.mk (Kd.R_elder' (rk_ HO273.out) (Kd.R_base ho0) hb); have n1_ := Aside0.mk (Kd.R_lower (Kd.R_new' ho0 (Kd.R_lt (rk_ HO273.out))) (below_size (hb_))); have n2_ := Aside0.mk (below_step (hb_) hb); clear HO273; clear HB; have HO273 := n0_; have HO276 := n1_; have HB := n2_; clear n0_ n1_ n2_; (try clear hb); (try clear hb2); (try clear hk); (try clear hi); (try clear ho0)) | ((with_reducible refine gate_callee (f := 42) rfl ?_); refine goesL_ (some 15) rfl rfl Try.func42 (by kernel_rfl) rfl #[.slice Ao17 t271.length co17] rfl ga_ ?_; (with_reducible refine (slices_Reverse_impl_Peg_impl_Peg.calls (fun k_ => some k_ = (.slice Ao17 t271.length co17 : Value).ownBlock) (.slice Ao17 t271.length co17) t271 t277 w _ ?side1 ?side2 A7.out).mono ?_); (case side1 => repeat (first | (with_reducible first | exact HB.out | apply below_alloc | apply pw_below_drewN | apply below_drew1) | exact HB.out)); (case side2 => exact Kd.R_tight rfl HO273.out); rintro e w19 ⟨rfl, hy0, hb, hkp⟩; refine ⟨_, rfl, ?_⟩; have n0_ := Aside0.mk (Kd.R_reok rfl hy0 (fun k_ e_ => HO273.out.1 k_ e_)); have n1_ := Aside0.mk (Kd.R_mono (ok' := fun k_ => some k_ ≠ (.slice Ao17 t271.length co17 : Value).ownBlock) (Kd.R_keptB (HO276.out) hkp (fun k_ hk_ hs_ => (hk_.2) hs_)) (fun k_ hk_ => hk_.1.2)); have n2_ := Aside0.mk (hb); clear HO273; clear HO276; clear HB; have HO273 := n0_; have HO276 := n1_; have HB := n2_; clear n0_ n1_ n2_; (try clear hb); (try clear hkp); (try clear hy0)) | ((with_reducible refine gate_callee (f := 41) rfl ?_); refine goesL_ (some 17) rfl rfl Try.func41 (by kernel_rfl) rfl #[.slice Ao17 t277.length co17] rfl (by (try simp only [List.map_toArray, List.map_cons, List.map_nil]); first | done | (rw [show t277.length = t271.length from (Kd.R_reads' HO273.out).1.symm] <;> rfl) | rfl | (simp only [List.length_drop, List.length_take]; rfl)) ?_; (with_reducible refine (impl_chain.calls k _ _ t277 t278 _ ?side1 ?side2 A8.out).mono ?_); (case side1 => repeat (first | exact (Kd.R_reads' HO273.out).2.2 | (with_reducible refine Kd.C_alloc ?_ _) | (with_reducible refine Kd.C_drewN ?_ _) | (with_reducible refine Kd.C_drew ?_))); (case side2 => rw [show t277.length = t271.length from (Kd.R_reads' HO273.out).1.symm]; exact (Kd.R_reads' HO273.out).2.1); rintro e w20 ⟨v279, rfl, ho0, hb⟩; refine ⟨_, rfl, ?_⟩; have n0_ := Aside0.mk (Kd.R_elder' (rk_ HO273.out) (Kd.R_base ho0) hb); have n1_ := Aside0.mk (Kd.R_elder' (rk_ HO276.out) (Kd.R_base ho0) hb); have n2_ := Aside0.mk (Kd.R_lower (Kd.R_new' (Kd.R_new' ho0 (Kd.R_lt (rk_ HO273.out))) (Kd.R_lt (rk_ HO276.out))) (below_size (hb_))); have n3_ := Aside0.mk (below_step (hb_) hb); clear HO273; clear HO276; clear HB; have HO273 := n0_; have HO276 := n1_; have HO280 := n2_; have HB := n3_; clear n0_ n1_ n2_ n3_; (try clear hb); (try clear hb2); (try clear hk); (try clear hi); (try clear ho0)))
      have n0_ := Aside0.mk (Kd.R_drew HO273.out)
      have n1_ := Aside0.mk (Kd.R_drew HO276.out)
      have n2_ := Aside0.mk (Kd.R_drew HO280.out)
      have n3_ := Aside0.mk (below_drew1 HB.out)
      clear HO273
      clear HO276
      clear HO280
      clear HB
      have HO273 := n0_
      have HO276 := n1_
      have HO280 := n2_
      have HB := n3_
      clear n0_ n1_ n2_ n3_
      obtain ⟨Ao22, co22, eo22⟩ := Kd.R_slice HO276.out
      (first | subst eo22 | (injection eo22 with f1_ f2_ f3_; have f4_ := f1_.symm; have f5_ := f3_.symm; clear f1_ f2_ f3_; subst f4_; subst f5_))
      have q23 : ((ji9) : Int) ≤ ((t274.length : Int) : Int) := odt_
      obtain ⟨i023, hi023, _, hsz23, _⟩ := info_parts info37
      have hroom23 : t274.length ≤ co22 := (Kd.R_reads' HO276.out).2.1
      have hC23 : Kd.F k37 _ _ Ao22 t274.length t274 := (Kd.V_at (base := w.heap.size) (Kd.R_V HO276.out)).2.2
      have hcut23 := cut_to (P := Try.prog) 26 37 .i64 Try.underlying26 hi023 Ao22 t274.length co22 (ji9) (odt_) q23 hroom23
      have hr23 := Kd.F_take (m := ((ji9) : Int).toNat) hC23 (by omega)
      have hy23 : y281.length = ((ji9) : Int).toNat := (by rw [Ny281.out, List.length_take]; omega)
      rw [← Ny281.out] at hr23
      rw [← hy23] at hcut23
      have HO285 := Aside0.mk (show Kd.V k37 37 _ w.heap.size _ (.slice Ao22 y281.length co22) y281 from Kd.V_mk (by omega) hr23)
      have HC285 := Aside0.mk (show y281.length ≤ co22 from by omega)
      clear hr23 hC23 hroom23 hi023 hsz23
      have KY23 := Aside0.mk hy23
      clear hy23
      replace q23 := eq_true q23
      obtain ⟨Ao24, co24, eo24⟩ := Kd.R_slice HO280.out
      (first | subst eo24 | (injection eo24 with f1_ f2_ f3_; have f4_ := f1_.symm; have f5_ := f3_.symm; clear f1_ f2_ f3_; subst f4_; subst f5_))
      have q25 : ((ji12) : Int) ≤ ((t278.length : Int) : Int) := odt_
      obtain ⟨i025, hi025, _, hsz25, _⟩ := info_parts info37
      have hroom25 : t278.length ≤ co24 := (Kd.R_reads' HO280.out).2.1
      have hC25 : Kd.F k37 _ _ Ao24 t278.length t278 := (Kd.V_at (base := w.heap.size) (Kd.R_V HO280.out)).2.2
      have hcut25 := cut_to (P := Try.prog) 26 37 .i64 Try.underlying26 hi025 Ao24 t278.length co24 (ji12) (odt_) q25 hroom25
      have hr25 := Kd.F_take (m := ((ji12) : Int).toNat) hC25 (by omega)
      have hy25 : y286.length = ((ji12) : Int).toNat := (by rw [Ny286.out, List.length_take]; omega)
      rw [← Ny286.out] at hr25
      rw [← hy25] at hcut25
      have HO290 := Aside0.mk (show Kd.V k37 37 _ w.heap.size _ (.slice Ao24 y286.length co24) y286 from Kd.V_mk (by omega) hr25)
      have HC290 := Aside0.mk (show y286.length ≤ co24 from by omega)
      clear hr25 hC25 hroom25 hi025 hsz25
      have KY25 := Aside0.mk hy25
      clear hy25
      replace q25 := eq_true q25
      refine start_ (n := 13) (S := fun w' => True) (ds := []) #[false, false, false, false, false, false, false, false, false, false, false, false, false] (by kernel_rfl) rfl rfl trivial (fun hHeld => ?_); refine with_tabW impl_band.tab7 impl_band.bits7 (fun HT_ HW_ => ?_)
      generalize w20.drew = w21 at HO273 HO276 HO280 HB HO285 HO290 hHeld ⊢
      refine pure_ (i := 0) (N := some 18) (v := ?_) (a' := ?_) #[true, false, false, false, false, false, false, false, false, false, false, false, false] rfl rfl (any_of HT_.out (by kernel_rfl)) (fun _ _ _ h => h) (Or.inl ⟨by rfl, ?_⟩) ?_ ?_
      rotate_left
      ·intro w'
       go_simp
       with_reducible rfl
      rotate_left
      ·simp only [Act.put, sA, sB, sC, i64_w, i32_w]
       rfl
      refine pure_ (i := 1) (N := some 19) (v := ?_) (a' := ?_) #[true, true, false, false, false, false, false, false, false, false, false, false, false] rfl rfl (any_of HT_.out (by kernel_rfl)) (fun _ _ _ h => h) (Or.inl ⟨by rfl, ?_⟩) ?_ ?_
      rotate_left
      ·intro w'
       go_simp
       with_reducible rfl
      rotate_left
      ·simp only [Act.put, sA, sB, sC, i64_w, i32_w]
       rfl
      refine pure_ (i := 2) (N := some 20) (v := ?_) (a' := ?_) #[true, true, true, false, false, false, false, false, false, false, false, false, false] rfl rfl (any_of HT_.out (by kernel_rfl)) (fun _ _ _ h => h) (Or.inl ⟨by rfl, ?_⟩) ?_ ?_
      rotate_left
      ·intro w'
       go_simp
       with_reducible rfl
      rotate_left
      ·simp only [Act.put, sA, sB, sC, i64_w, i32_w]
       rfl
      refine pure_ (i := 3) (N := some 21) (v := ?_) (a' := ?_) #[true, true, true, true, false, false, false, false, false, false, false, false, false] rfl rfl (any_of HT_.out (by kernel_rfl)) (fun _ _ _ h => h) (Or.inl ⟨by rfl, ?_⟩) ?_ ?_
      rotate_left
      ·intro w'
       go_simp
       with_reducible rfl
      rotate_left
      ·simp only [Act.put, sA, sB, sC, i64_w, i32_w]
       rfl
      refine pure_ (i := 4) (N := some 22) (v := ?_) (a' := ?_) #[true, true, true, true, true, false, false, false, false, false, false, false, false] rfl rfl (any_of HT_.out (by kernel_rfl)) (fun _ _ _ h => h) (Or.inl ⟨by rfl, ?_⟩) ?_ ?_
      rotate_left
      ·intro w'
       go_simp
       with_reducible rfl
      rotate_left
      ·simp only [Act.put, sA, sB, sC, i64_w, i32_w]
       rfl
      refine pure_ (i := 5) (N := some 23) (v := ?_) (a' := ?_) #[true, true, true, true, true, true, false, false, false, false, false, false, false] rfl rfl (any_of HT_.out (by kernel_rfl)) (fun _ _ _ h => h) (Or.inl ⟨by rfl, ?_⟩) ?_ ?_
      rotate_left
      ·intro w'
       go_simp
       with_reducible rfl
      rotate_left
      ·simp only [Act.put, sA, sB, sC, i64_w, i32_w]
       rfl
      refine pure_ (i := 6) (N := some 24) (v := ?_) (a' := ?_) #[true, true, true, true, true, true, true, false, false, false, false, false, false] rfl rfl (any_of HT_.out (by kernel_rfl)) (fun _ _ _ h => h) (Or.inl ⟨by rfl, ?_⟩) ?_ ?_
      rotate_left
      ·intro w'
       go_simp
       with_reducible rfl
      rotate_left
      ·simp only [Act.put, sA, sB, sC, i64_w, i32_w]
       rfl
      refine pure_ (i := 7) (N := some 25) (v := ?_) (a' := ?_) #[true, true, true, true, true, true, true, true, false, false, false, false, false] rfl rfl (any_of HT_.out (by kernel_rfl)) (fun _ _ _ h => h) (Or.inl ⟨by rfl, ?_⟩) ?_ ?_
      rotate_left
      ·intro w'
       go_simp
       with_reducible rfl
      rotate_left
      ·simp only [Act.put, sA, sB, sC, i64_w, i32_w]
       rfl
      refine pure_ (i := 8) (N := some 26) (v := ?_) (a' := ?_) #[true, true, true, true, true, true, true, true, true, false, false, false, false] rfl rfl (any_of HT_.out (by kernel_rfl)) (fun _ _ _ h => h) (Or.inl ⟨by rfl, ?_⟩) ?_ ?_
      rotate_left
      ·intro w'
       go_simp
       with_reducible rfl
      rotate_left
      ·simp only [Act.put, sA, sB, sC, i64_w, i32_w]
       rfl
      refine pure_ (i := 9) (N := some 27) (v := ?_) (a' := ?_) #[true, true, true, true, true, true, true, true, true, true, false, false, false] rfl rfl (any_of HT_.out (by kernel_rfl)) (fun _ _ _ h => h) (Or.inl ⟨by rfl, ?_⟩) ?_ ?_
      rotate_left
      ·intro w'
       go_simp
       with_reducible rfl
      rotate_left
      ·simp only [Act.put, sA, sB, sC, i64_w, i32_w]
       rfl
      refine one_ (i := 10) (N := some 28) #[true, true, true, true, true, true, true, true, true, true, true, false, false] rfl rfl (one_of HT_.out (by kernel_rfl)) (by decide) (fun K hK => ?_)
      refine Kd.N_lit_step (Kd.slice 37 k37) _ 26 ?hg (N' := 28) ?hd (xs := ([y281, y286] : List (List (S37)))) (inner := [.slice Ao22 y281.length co22, .slice Ao24 y286.length co24]) (ok := (fun k_ => some k_ ≠ (.slice Ao17 t271.length co17 : Value).ownBlock)) (okp := (fun k_ => some k_ ≠ (.slice Ao17 t271.length co17 : Value).ownBlock)) ?hr ?hp (fun _ hk => hk) ((show ∀ k_, w21.heap.size ≤ k_ → (fun k_ => some k_ ≠ (.slice Ao17 t271.length co17 : Value).ownBlock) k_ from fun k_ hk => Kd.fresh' (Kd.R_lt (rk_ HO273.out)) k_ hk) _ (Nat.le_refl _)) (Below.refl _ _) (Nat.le_refl _) (by simp) ?_; (case hd => rfl); (case hg => rfl); (case hr => first | (go_simp; done) | (go_simp; rfl)); (case hp => exact (Reps.one (show Kd.FK (Kd.slice 37 k37) _ _ y281 [.slice Ao22 y281.length co22] from (Kd.FK_slice_mk (Kd.V_reads' (Kd.V_mono (ok' := (fun k_ => some k_ ≠ (.slice Ao17 t271.length co17 : Value).ownBlock)) (HO285.out) (fun k_ hk => hk.1))).2.1 (Kd.V_F (Kd.V_mono (ok' := (fun k_ => some k_ ≠ (.slice Ao17 t271.length co17 : Value).ownBlock)) (HO285.out) (fun k_ hk => hk.1))))) (Reps.one (show Kd.FK (Kd.slice 37 k37) _ _ y286 [.slice Ao24 y286.length co24] from (Kd.FK_slice_mk (Kd.V_reads' (Kd.V_mono (ok' := (fun k_ => some k_ ≠ (.slice Ao17 t271.length co17 : Value).ownBlock)) (HO290.out) (fun k_ hk => hk.1.2))).2.1 (Kd.V_F (Kd.V_mono (ok' := (fun k_ => some k_ ≠ (.slice Ao17 t271.length co17 : Value).ownBlock)) (HO290.out) (fun k_ hk => hk.1.2))))) (Reps.none _ _))))
      intro v292 w26 ho27 hb hg_ hnew_
      clear hg_ hnew_
      (first | rw [← Ny291.out] at ho27 | (simp only [Int.reduceToNat] at ho27; rw [← Ny291.out] at ho27))
      have n0_ := Aside0.mk (Kd.R_below (rk_ HO273.out) hb)
      have n1_ := Aside0.mk (Kd.R_below (rk_ HO276.out) hb)
      have n2_ := Aside0.mk (Kd.R_below (rk_ HO280.out) hb)
      have n3_ := Aside0.mk (Kd.V_elder' (by (with_reducible repeat (first | apply Kd.V_alloc | apply Kd.V_drewN | apply Kd.V_drew)); exact HO285.out) (Kd.N_base ho27) hb)
      have n4_ := Aside0.mk (Kd.V_elder' (by (with_reducible repeat (first | apply Kd.V_alloc | apply Kd.V_drewN | apply Kd.V_drew)); exact HO290.out) (Kd.N_base ho27) hb)
      have n5_ := Aside0.mk (Kd.N_lower ho27 (below_size (hb_)))
      have n6_ := Aside0.mk (below_step (hb_) hb)
      clear HO273
      clear HO276
      clear HO280
      clear HO285
      clear HO290
      clear HB
      have HO273 := n0_
      have HO276 := n1_
      have HO280 := n2_
      have HO285 := n3_
      have HO290 := n4_
      have HO293 := n5_
      have HB := n6_
      clear n0_ n1_ n2_ n3_ n4_ n5_ n6_
      clear hb ho27
      obtain ⟨Ao28, co28, eo28⟩ := Kd.N_slice HO293.out
      (first | subst eo28 | (injection eo28 with f1_ f2_ f3_; have f4_ := f1_.symm; have f5_ := f3_.symm; clear f1_ f2_ f3_; subst f4_; subst f5_))
      refine hK.out _ _ trivial (fun hHeld => ?_)
      clear hK K
      refine norm_ (a' := ?_) ?_ ?_
      rotate_left
      ·show Act.put _ (some 28) _ = _
       simp only [Act.put, sA, sB, sC, i64_w, i32_w]
       rfl
      refine one_ (i := 11) (N := some 29) #[true, true, true, true, true, true, true, true, true, true, true, true, false] rfl rfl (one_of HT_.out (by kernel_rfl)) (by decide) (fun K hK => ?_)
      refine goes_ Try.func43 (by kernel_rfl) rfl #[.slice Ao28 y291.length co28] (by rfl) rfl rfl ga_ ?_
      with_reducible refine (slices_Concat_impl_Peg_impl_Peg.calls k _ _ y291 t294 _ ?side1 ?side2 A15.out).mono ?_
      (case side1 => repeat (first | exact (Kd.N_reads' HO293.out).2.2 | (with_reducible refine Kd.C_alloc ?_ _) | (with_reducible refine Kd.C_drewN ?_ _) | (with_reducible refine Kd.C_drew ?_)))
      (case side2 => exact (Kd.N_reads' HO293.out).2.1)
      rintro e w29 ⟨v295, rfl, ho0, hb⟩
      refine ⟨_, rfl, ?_⟩
      have n0_ := Aside0.mk (Kd.R_elder' (rk_ HO273.out) (Kd.R_base ho0) hb)
      have n1_ := Aside0.mk (Kd.R_elder' (rk_ HO276.out) (Kd.R_base ho0) hb)
      have n2_ := Aside0.mk (Kd.R_elder' (rk_ HO280.out) (Kd.R_base ho0) hb)
      have n3_ := Aside0.mk (Kd.V_elder' (by (with_reducible repeat (first | apply Kd.V_alloc | apply Kd.V_drewN | apply Kd.V_drew)); exact HO285.out) (Kd.R_base ho0) hb)
      have n4_ := Aside0.mk (Kd.V_elder' (by (with_reducible repeat (first | apply Kd.V_alloc | apply Kd.V_drewN | apply Kd.V_drew)); exact HO290.out) (Kd.R_base ho0) hb)
      have n5_ := Aside0.mk (Kd.N_elder' (by (with_reducible repeat (first | apply Kd.N_alloc | apply Kd.N_drewN | apply Kd.N_drew)); exact HO293.out) (Kd.R_base ho0) hb)
      have n6_ := Aside0.mk (Kd.R_lower (Kd.R_new' (Kd.R_new' (Kd.R_new' ho0 (Kd.R_lt (rk_ HO273.out))) (Kd.R_lt (rk_ HO276.out))) (Kd.R_lt (rk_ HO280.out))) (below_size (hb_)))
      have n7_ := Aside0.mk (below_step (hb_) hb)
      clear HO273
      clear HO276
      clear HO280
      clear HO285
      clear HO290
      clear HO293
      clear HB
      have HO273 := n0_
      have HO276 := n1_
      have HO280 := n2_
      have HO285 := n3_
      have HO290 := n4_
      have HO293 := n5_
      have HO296 := n6_
      have HB := n7_
      clear n0_ n1_ n2_ n3_ n4_ n5_ n6_ n7_
      (try clear hb)
      (try clear hb2)
      (try clear hk)
      (try clear hi)
      (try clear ho0)
      refine hK.out _ _ trivial (fun hHeld => ?_)
      clear hK K
      refine norm_ (a' := ?_) ?_ ?_
      rotate_left
      ·show Act.put _ (some 29) _ = _
       simp only [Act.put, sA, sB, sC, i64_w, i32_w]
       rfl
      refine pure_ (i := 12) (N := some 2) (v := ?_) (a' := ?_) #[true, true, true, true, true, true, true, true, true, true, true, true, true] rfl rfl (any_of HT_.out (by kernel_rfl)) (fun _ _ _ h => h) (Or.inl ⟨by rfl, ?_⟩) ?_ ?_
      rotate_left
      ·intro w'
       go_simp
       with_reducible rfl
      rotate_left
      ·simp only [Act.put, sA, sB, sC, i64_w, i32_w]
       rfl
      refine done_ (done_of HT_.out (by kernel_rfl)) ?_
      try go_wp2
      go_ret
      exact ⟨_, by first | rfl | (simp [errW_none, errW_some] <;> rfl) | (simp only [← hji9, ← hji12]; first | rfl | (simp [errW_none, errW_some] <;> rfl)) | (simp [*, errW_none, errW_some] <;> rfl), by (with_reducible repeat (first | apply Kd.R_alloc | apply Kd.R_drewN | apply Kd.R_drew)); exact Kd.R_mono HO296.out (fun _ hk => trivial), hb_⟩
     ·rw [if_neg c14] at H
      exact absurd H (by simp)
    ·rw [if_neg c13] at H
     exact absurd H (by simp)
   ·rw [if_neg c11] at H
    exact absurd H (by simp)
  ·rw [if_neg c10] at H
   exact absurd H (by simp)

/-! ### impl_areConvex: function 20 -/
def impl_areConvex.f (k : Nat) (l0 : List (S37)) : Option (Bool) := (impl_band.f k l0).bind fun t297 => (some ((t297.length : Int) == (l0.length : Int)))
theorem impl_areConvex.mono : ∀ a0 k, LeO (impl_areConvex.f k a0) (impl_areConvex.f (k + 1) a0) := by
 intro a0 k
 unfold impl_areConvex.f
 repeat' first
   | (with_reducible exact impl_band.mono _ _)
   | (with_reducible exact LeO.refl _)
   | (with_reducible exact LeO.none _)
   | (with_reducible refine LeO.ite ?_ ?_)
   | (with_reducible refine LeO.bind ?_ (fun _ => ?_))
   | exact impl_band.mono _ _
   | exact LeO.none _
   | refine LeO.ite ?_ ?_
   | refine LeO.bind ?_ (fun _ => ?_)
set_option maxHeartbeats 8000000 in
set_option maxRecDepth 100000 in
theorem impl_areConvex.calls (k : Nat) (A0 : Option Addr) (c0 : Nat) (l0 : List (S37)) (r : Bool) (w : World) (hr0 : Kd.C k37 w A0 l0.length l0) (hc0 : l0.length ≤ c0) (h : impl_areConvex.f k l0 = some r) :
  Calls Try.prog 20 #[.slice A0 l0.length c0] w fun e w' => e = .returned (.bool r) ∧ Below w.heap.size w w' := by
 have HR0 := Aside0.mk hr0
 have HC0 := Aside0.mk hc0
 clear hr0 hc0
 have HB := Aside0.mk (Below.refl w.heap.size w)
 have H : ((impl_band.f k l0).bind fun t297 => (some ((t297.length : Int) == (l0.length : Int)))) = some r := h
 clear h
 replace H := Option.bind_eq_some_iff.mp H
 obtain ⟨t297, A20, H⟩ := H
 replace H : (some ((t297.length : Int) == (l0.length : Int))) = some r := H
 have A2 := Aside0.mk A20
 clear A20
 obtain rfl := Option.some.inj H
 go_enter Try.func20, Try.ntmps20
 go_wp2_with (first | ((with_reducible refine gate_callee (f := 29) rfl ?_); refine goesL_ (some 4) rfl rfl Try.func29 (by kernel_rfl) rfl #[.slice A0 l0.length c0] rfl ga_ ?_; (with_reducible refine (impl_band.calls k _ _ l0 t297 _ ?side1 ?side2 A2.out).mono ?_); (case side1 => repeat (first | exact HR0.out | (with_reducible refine Kd.C_alloc ?_ _) | (with_reducible refine Kd.C_drewN ?_ _) | (with_reducible refine Kd.C_drew ?_))); (case side2 => exact HC0.out); rintro e w3 ⟨v298, rfl, ho0, hb⟩; refine ⟨_, rfl, ?_⟩; have n0_ := Aside0.mk (Kd.R_lower ho0 (below_size (hb_))); have n1_ := Aside0.mk (below_step (hb_) hb); clear HB; have HO299 := n0_; have HB := n1_; clear n0_ n1_; (try clear hb); (try clear hb2); (try clear hk); (try clear hi); (try clear ho0); obtain ⟨Ao4, co4, eo4⟩ := Kd.R_slice HO299.out; subst eo4))
 go_ret
 exact ⟨by first | rfl | (simp [errW_none, errW_some] <;> rfl) | (simp [*, errW_none, errW_some] <;> rfl), hb_⟩

end Go.Proofs.Ytnnmpdhijdkpcaa.MW
