-- Written by a program of this session (wip/print/myprint.py) over the kit's printer; Lean checks it.
import Derived.Test.YtookmifpgclhlaaMNx0
import Derived.Test.YtookmifpgclhlaaMNx1
import Derived.Test.YtookmifpgclhlaaMNx3
import Derived.Test.YtookmifpgclhlaaMNx4
import Derived.Test.YtookmifpgclhlaaMNx7
import Derived.Test.YtookmifpgclhlaaMNx8
import Derived.Test.YtookmifpgclhlaaMNx9
namespace Go.Proofs.Ytookmifpgclhlaa.MN
open Go.RowKit Go.Proofs.YtookmifpgclhlaaW.PrintWords Go.Proofs.YtookmifpgclhlaaW.PrintLast Go.Proofs.YtookmifpgclhlaaW.PrintMore Go.Proofs.YtookmifpgclhlaaV
attribute [local go_sem] max2_int min2_int max_two min_two max_three min_three max_four min_four   -- for this text's walks alone
set_option linter.unusedVariables false
set_option linter.unusedSimpArgs false

/-! ### laws_FnExactFirstNoThree: function 10 -/
mutual
def laws_FnExactFirstNoThree.j0 : Nat → Int → Int → List (S30) → Bool → List (S30) → Bool → Option (Bool)
  | 0, _, _, _, _, _, _ => none
  | k + 1, x0, x1, x5, x6, x7, x33 => if x33 = true then (some false) else ((laws_markPegS.f k x7 1).bind fun bt227 => ((laws_heldPegS.f k bt227.2 1).bind fun t229 => (if t229 < 0 then (some false) else (if t229 = bt227.1 then ((impl_FirstNoThree.f k x0 x1).bind fun bt230 => ((laws_eqPegS.f k bt230.1 x5).bind fun t234 => (if t234 = true then (laws_FnExactFirstNoThree.j1 k bt227.2 bt227.1 (bt230.2 != x6)) else (laws_FnExactFirstNoThree.j1 k bt227.2 bt227.1 true)))) else (some false)))))
def laws_FnExactFirstNoThree.j1 : Nat → List (S30) → Int → Bool → Option (Bool)
  | 0, _, _, _ => none
  | k + 1, x7, x9, x59 => if x59 = true then (some false) else ((laws_heldPegS.f k x7 1).bind fun t235 => (if t235 < 0 then (some false) else (if t235 = x9 then (some true) else (some false))))
end
def laws_FnExactFirstNoThree.f (k : Nat) (a0 : Int) (a1 : Int) : Option (Bool) := (spec_FirstNoThree.f k a0 a1).bind fun bt218 => ((impl_FirstNoThree.f k a0 a1).bind fun bt222 => ((laws_eqPegS.f k bt222.1 bt218.1).bind fun t226 => (if t226 = true then (laws_FnExactFirstNoThree.j0 k a0 a1 bt218.1 bt218.2 bt222.1 (bt222.2 != bt218.2)) else (laws_FnExactFirstNoThree.j0 k a0 a1 bt218.1 bt218.2 bt222.1 true))))
theorem laws_FnExactFirstNoThree.mono_l : ∀ k, (∀ y0 y1 y2 y3 y4 y5, LeO (laws_FnExactFirstNoThree.j0 k y0 y1 y2 y3 y4 y5) (laws_FnExactFirstNoThree.j0 (k + 1) y0 y1 y2 y3 y4 y5)) ∧ (∀ y0 y1 y2, LeO (laws_FnExactFirstNoThree.j1 k y0 y1 y2) (laws_FnExactFirstNoThree.j1 (k + 1) y0 y1 y2))
  | 0 => ⟨fun _ _ _ _ _ _ r h => by simp [laws_FnExactFirstNoThree.j0] at h, fun _ _ _ r h => by simp [laws_FnExactFirstNoThree.j1] at h⟩
  | k + 1 => by
    obtain ⟨ih0, ih1⟩ := laws_FnExactFirstNoThree.mono_l k
    refine ⟨?_, ?_⟩
    · intro y0 y1 y2 y3 y4 y5
      unfold laws_FnExactFirstNoThree.j0
      repeat' first
      | (with_reducible exact ih0 _ _ _ _ _ _)
      | (with_reducible exact ih1 _ _ _)
      | (with_reducible exact impl_FirstNoThree.mono _ _ _)
      | (with_reducible exact laws_eqPegS.mono _ _ _)
      | (with_reducible exact laws_heldPegS.mono _ _ _)
      | (with_reducible exact laws_markPegS.mono _ _ _)
      | (with_reducible exact spec_FirstNoThree.mono _ _ _)
      | (with_reducible exact LeO.refl _)
      | (with_reducible exact LeO.none _)
      | (with_reducible refine LeO.ite ?_ ?_)
      | (with_reducible refine LeO.bind ?_ (fun _ => ?_))
      | exact ih0 _ _ _ _ _ _
      | exact ih1 _ _ _
      | exact impl_FirstNoThree.mono _ _ _
      | exact laws_eqPegS.mono _ _ _
      | exact laws_heldPegS.mono _ _ _
      | exact laws_markPegS.mono _ _ _
      | exact spec_FirstNoThree.mono _ _ _
      | exact LeO.none _
      | refine LeO.ite ?_ ?_
      | refine LeO.bind ?_ (fun _ => ?_)
    · intro y0 y1 y2
      unfold laws_FnExactFirstNoThree.j1
      repeat' first
      | (with_reducible exact ih0 _ _ _ _ _ _)
      | (with_reducible exact ih1 _ _ _)
      | (with_reducible exact impl_FirstNoThree.mono _ _ _)
      | (with_reducible exact laws_eqPegS.mono _ _ _)
      | (with_reducible exact laws_heldPegS.mono _ _ _)
      | (with_reducible exact laws_markPegS.mono _ _ _)
      | (with_reducible exact spec_FirstNoThree.mono _ _ _)
      | (with_reducible exact LeO.refl _)
      | (with_reducible exact LeO.none _)
      | (with_reducible refine LeO.ite ?_ ?_)
      | (with_reducible refine LeO.bind ?_ (fun _ => ?_))
      | exact ih0 _ _ _ _ _ _
      | exact ih1 _ _ _
      | exact impl_FirstNoThree.mono _ _ _
      | exact laws_eqPegS.mono _ _ _
      | exact laws_heldPegS.mono _ _ _
      | exact laws_markPegS.mono _ _ _
      | exact spec_FirstNoThree.mono _ _ _
      | exact LeO.none _
      | refine LeO.ite ?_ ?_
      | refine LeO.bind ?_ (fun _ => ?_)
theorem laws_FnExactFirstNoThree.mono : ∀ a0 a1 k, LeO (laws_FnExactFirstNoThree.f k a0 a1) (laws_FnExactFirstNoThree.f (k + 1) a0 a1) := by
  intro a0 a1 k
  obtain ⟨ih0, ih1⟩ := laws_FnExactFirstNoThree.mono_l k
  unfold laws_FnExactFirstNoThree.f
  repeat' first
      | (with_reducible exact ih0 _ _ _ _ _ _)
      | (with_reducible exact ih1 _ _ _)
      | (with_reducible exact impl_FirstNoThree.mono _ _ _)
      | (with_reducible exact laws_eqPegS.mono _ _ _)
      | (with_reducible exact laws_heldPegS.mono _ _ _)
      | (with_reducible exact laws_markPegS.mono _ _ _)
      | (with_reducible exact spec_FirstNoThree.mono _ _ _)
      | (with_reducible exact LeO.refl _)
      | (with_reducible exact LeO.none _)
      | (with_reducible refine LeO.ite ?_ ?_)
      | (with_reducible refine LeO.bind ?_ (fun _ => ?_))
      | exact ih0 _ _ _ _ _ _
      | exact ih1 _ _ _
      | exact impl_FirstNoThree.mono _ _ _
      | exact laws_eqPegS.mono _ _ _
      | exact laws_heldPegS.mono _ _ _
      | exact laws_markPegS.mono _ _ _
      | exact spec_FirstNoThree.mono _ _ _
      | exact LeO.none _
      | refine LeO.ite ?_ ?_
      | refine LeO.bind ?_ (fun _ => ?_)
set_option maxHeartbeats 8000000 in
set_option maxRecDepth 100000 in
theorem laws_FnExactFirstNoThree.calls (k : Nat) (a0 : Int) (a1 : Int) (r : Bool) (w : World) (hr_ : r = true) (h : laws_FnExactFirstNoThree.f k a0 a1 = some r) :
    Calls Try.prog 10 #[.int .i64 a0, .int .i64 a1] w fun e w' => e = .returned (.bool r) ∧ Below w.heap.size w w' := by
  have HB := Aside0.mk (Below.refl w.heap.size w)
  have H : ((spec_FirstNoThree.f k a0 a1).bind fun bt218 => ((impl_FirstNoThree.f k a0 a1).bind fun bt222 => ((laws_eqPegS.f k bt222.1 bt218.1).bind fun t226 => (if t226 = true then (laws_FnExactFirstNoThree.j0 k a0 a1 bt218.1 bt218.2 bt222.1 (bt222.2 != bt218.2)) else (laws_FnExactFirstNoThree.j0 k a0 a1 bt218.1 bt218.2 bt222.1 true))))) = some r := h
  clear h
  replace H := Option.bind_eq_some_iff.mp H
  obtain ⟨⟨t218, t219⟩, A30, H⟩ := H
  replace H : ((impl_FirstNoThree.f k a0 a1).bind fun bt222 => ((laws_eqPegS.f k bt222.1 t218).bind fun t226 => (if t226 = true then (laws_FnExactFirstNoThree.j0 k a0 a1 t218 t219 bt222.1 (bt222.2 != t219)) else (laws_FnExactFirstNoThree.j0 k a0 a1 t218 t219 bt222.1 true)))) = some r := H
  have A3 := Aside0.mk A30
  clear A30
  replace H := Option.bind_eq_some_iff.mp H
  obtain ⟨⟨t222, t223⟩, A40, H⟩ := H
  replace H : ((laws_eqPegS.f k t222 t218).bind fun t226 => (if t226 = true then (laws_FnExactFirstNoThree.j0 k a0 a1 t218 t219 t222 (t223 != t219)) else (laws_FnExactFirstNoThree.j0 k a0 a1 t218 t219 t222 true))) = some r := H
  have A4 := Aside0.mk A40
  clear A40
  have HC5 := Aside0.mk H
  clear H
  go_enter Try.func10, Try.ntmps10
  go_upto_region 3 with (first | ((with_reducible refine gate_callee (f := 30) rfl ?_); refine goesL_ (some 16) rfl rfl Try.func30 (by kernel_rfl) rfl #[.int .i64 a0, .int .i64 a1] rfl ga_ ?_; (with_reducible refine (spec_FirstNoThree.calls k a0 a1 t218 t219 _ A3.out).mono ?_); rintro e w6 ⟨v220, rfl, ho0, hb⟩; refine ⟨_, rfl, ?_⟩; have n0_ := Aside0.mk (Kd.R_lower ho0 (below_size (hb_))); have n1_ := Aside0.mk (below_step (hb_) hb); clear HB; have HO221 := n0_; have HB := n1_; clear n0_ n1_; (try clear hb); (try clear hb2); (try clear hk); (try clear hi); (try clear ho0)) | ((with_reducible refine gate_callee (f := 31) rfl ?_); refine goesL_ (some 22) rfl rfl Try.func31 (by kernel_rfl) rfl #[.int .i64 a0, .int .i64 a1] rfl ga_ ?_; (with_reducible refine (impl_FirstNoThree.calls k a0 a1 t222 t223 _ A4.out).mono ?_); rintro e w7 ⟨v224, rfl, ho0, hb⟩; refine ⟨_, rfl, ?_⟩; have n0_ := Aside0.mk (Kd.R_elder' (rk_ HO221.out) (Kd.R_base ho0) hb); have n1_ := Aside0.mk (Kd.R_lower (Kd.R_new' ho0 (Kd.R_lt (rk_ HO221.out))) (below_size (hb_))); have n2_ := Aside0.mk (below_step (hb_) hb); clear HO221; clear HB; have HO221 := n0_; have HO225 := n1_; have HB := n2_; clear n0_ n1_ n2_; (try clear hb); (try clear hb2); (try clear hk); (try clear hi); (try clear ho0)))
  (try simp only [Act.put, List.setIfInBounds_toArray, List.set_cons_zero, List.set_cons_succ])
  go_cut [33] (fun v33 wc => ∃ (kq : Nat) (x33_4 : Bool), v33 = .bool x33_4 ∧ Aside0 (laws_FnExactFirstNoThree.j0 kq a0 a1 t218 t219 t222 x33_4 = some r) ∧ Aside0 (kq ≤ k) ∧ Aside0 (Kd.R k30 30 wc w.heap.size (fun k_ => some k_ ≠ (v224 : Value).ownBlock) v220 t218) ∧ Aside0 (Kd.R k30 30 wc w.heap.size (fun k_ => some k_ ≠ (v220 : Value).ownBlock) v224 t222) ∧ Aside0 (Below w.heap.size w wc))
  case first =>
    have H := HC5.out
    clear HC5
    replace H := Option.bind_eq_some_iff.mp H
    obtain ⟨t226, A80, H⟩ := H
    replace H : (if t226 = true then (laws_FnExactFirstNoThree.j0 k a0 a1 t218 t219 t222 (t223 != t219)) else (laws_FnExactFirstNoThree.j0 k a0 a1 t218 t219 t222 true)) = some r := H
    have A8 := Aside0.mk A80
    clear A80
    by_cases c9 : t226 = true
    · subst c9
      have H1 : (laws_FnExactFirstNoThree.j0 k a0 a1 t218 t219 t222 (t223 != t219)) = some r := by rw [if_pos rfl] at H; exact H
      clear H
      have H := H1
      clear H1
      have H' := Aside0.mk H
      clear H
      obtain ⟨Ao10, co10, eo10⟩ := Kd.R_slice HO225.out
      subst eo10
      obtain ⟨Ao11, co11, eo11⟩ := Kd.R_slice HO221.out
      subst eo11
      go_wp2_with (first | ((with_reducible refine gate_callee (f := 32) rfl ?_); refine goesL_ (some 27) rfl rfl Try.func32 (by kernel_rfl) rfl #[.slice Ao10 t222.length co10, .slice Ao11 t218.length co11] rfl ga_ ?_; (with_reducible refine (laws_eqPegS.calls k _ _ t222 _ _ t218 true _ ?side1 ?side2 ?side3 ?side4 A8.out).mono ?_); (case side1 => repeat (first | exact (Kd.R_reads' HO225.out).2.2 | (with_reducible refine Kd.C_alloc ?_ _) | (with_reducible refine Kd.C_drewN ?_ _) | (with_reducible refine Kd.C_drew ?_))); (case side2 => exact (Kd.R_reads' HO225.out).2.1); (case side3 => repeat (first | exact (Kd.R_reads' HO221.out).2.2 | (with_reducible refine Kd.C_alloc ?_ _) | (with_reducible refine Kd.C_drewN ?_ _) | (with_reducible refine Kd.C_drew ?_))); (case side4 => exact (Kd.R_reads' HO221.out).2.1); rintro e w12 ⟨rfl, hb⟩; refine ⟨_, rfl, ?_⟩; have n0_ := Aside0.mk (Kd.R_below (rk_ HO221.out) hb); have n1_ := Aside0.mk (Kd.R_below (rk_ HO225.out) hb); have n2_ := Aside0.mk (below_step (hb_) hb); clear HO221; clear HO225; clear HB; have HO221 := n0_; have HO225 := n1_; have HB := n2_; clear n0_ n1_ n2_; (try clear hb); (try clear hb2); (try clear hk); (try clear hi)))
      go_meet
      case rel => exact ⟨_, ((t223 != t219)), (by first | rfl | (simp; done) | (simp [*]; done)), H', ⟨by first | omega | exact Nat.le_refl _⟩, ⟨by (with_reducible repeat (first | apply Kd.R_alloc | apply Kd.R_drewN | apply Kd.R_drew)); exact Kd.R_mono HO221.out (fun _ hk => hk.2)⟩, ⟨by (with_reducible repeat (first | apply Kd.R_alloc | apply Kd.R_drewN | apply Kd.R_drew)); exact Kd.R_mono HO225.out (fun _ hk => hk.2)⟩, ⟨hb_⟩⟩
    · replace c9 := Bool.eq_false_iff.mpr c9
      subst c9
      have H1 : (laws_FnExactFirstNoThree.j0 k a0 a1 t218 t219 t222 true) = some r := by rw [if_neg (show ¬ (false = true) by decide)] at H; exact H
      clear H
      have H := H1
      clear H1
      have H' := Aside0.mk H
      clear H
      obtain ⟨Ao13, co13, eo13⟩ := Kd.R_slice HO225.out
      subst eo13
      obtain ⟨Ao14, co14, eo14⟩ := Kd.R_slice HO221.out
      subst eo14
      go_wp2_with (first | ((with_reducible refine gate_callee (f := 32) rfl ?_); refine goesL_ (some 27) rfl rfl Try.func32 (by kernel_rfl) rfl #[.slice Ao13 t222.length co13, .slice Ao14 t218.length co14] rfl ga_ ?_; (with_reducible refine (laws_eqPegS.calls k _ _ t222 _ _ t218 false _ ?side1 ?side2 ?side3 ?side4 A8.out).mono ?_); (case side1 => repeat (first | exact (Kd.R_reads' HO225.out).2.2 | (with_reducible refine Kd.C_alloc ?_ _) | (with_reducible refine Kd.C_drewN ?_ _) | (with_reducible refine Kd.C_drew ?_))); (case side2 => exact (Kd.R_reads' HO225.out).2.1); (case side3 => repeat (first | exact (Kd.R_reads' HO221.out).2.2 | (with_reducible refine Kd.C_alloc ?_ _) | (with_reducible refine Kd.C_drewN ?_ _) | (with_reducible refine Kd.C_drew ?_))); (case side4 => exact (Kd.R_reads' HO221.out).2.1); rintro e w15 ⟨rfl, hb⟩; refine ⟨_, rfl, ?_⟩; have n0_ := Aside0.mk (Kd.R_below (rk_ HO221.out) hb); have n1_ := Aside0.mk (Kd.R_below (rk_ HO225.out) hb); have n2_ := Aside0.mk (below_step (hb_) hb); clear HO221; clear HO225; clear HB; have HO221 := n0_; have HO225 := n1_; have HB := n2_; clear n0_ n1_ n2_; (try clear hb); (try clear hb2); (try clear hk); (try clear hi)))
      go_meet
      case rel => exact ⟨_, (true), (by first | rfl | (simp; done) | (simp [*]; done)), H', ⟨by first | omega | exact Nat.le_refl _⟩, ⟨by (with_reducible repeat (first | apply Kd.R_alloc | apply Kd.R_drewN | apply Kd.R_drew)); exact Kd.R_mono HO221.out (fun _ hk => hk.2)⟩, ⟨by (with_reducible repeat (first | apply Kd.R_alloc | apply Kd.R_drewN | apply Kd.R_drew)); exact Kd.R_mono HO225.out (fun _ hk => hk.2)⟩, ⟨hb_⟩⟩
  case rest =>
    clear HC5
    try clear c1
    try clear p2
    try clear c3
    try clear c9
    try clear c10
    obtain ⟨kq, x33_4, rfl, HA, HJ4, HO_5, HO_7, HB⟩ := hcut
    cases kq with
    | zero => exact absurd HA.out (by simp [laws_FnExactFirstNoThree.j0])
    | succ kj4 =>
      have H := HA.out
      clear HA
      simp only [laws_FnExactFirstNoThree.j0] at H
      by_cases c16 : x33_4 = true
      · subst c16
        have H1 : (some false) = some r := by rw [if_pos rfl] at H; exact H
        clear H
        have H := H1
        clear H1
        exact absurd (Option.some.inj H) (by rw [hr_]; decide)
      · replace c16 := Bool.eq_false_iff.mpr c16
        subst c16
        have H1 : ((laws_markPegS.f kj4 t222 1).bind fun bt227 => ((laws_heldPegS.f kj4 bt227.2 1).bind fun t229 => (if t229 < 0 then (some false) else (if t229 = bt227.1 then ((impl_FirstNoThree.f kj4 a0 a1).bind fun bt230 => ((laws_eqPegS.f kj4 bt230.1 t218).bind fun t234 => (if t234 = true then (laws_FnExactFirstNoThree.j1 kj4 bt227.2 bt227.1 (bt230.2 != t219)) else (laws_FnExactFirstNoThree.j1 kj4 bt227.2 bt227.1 true)))) else (some false))))) = some r := by rw [if_neg (show ¬ (false = true) by decide)] at H; exact H
        clear H
        have H := H1
        clear H1
        replace H := Option.bind_eq_some_iff.mp H
        obtain ⟨⟨t227, t228⟩, A170, H⟩ := H
        replace H : ((laws_heldPegS.f kj4 t228 1).bind fun t229 => (if t229 < 0 then (some false) else (if t229 = t227 then ((impl_FirstNoThree.f kj4 a0 a1).bind fun bt230 => ((laws_eqPegS.f kj4 bt230.1 t218).bind fun t234 => (if t234 = true then (laws_FnExactFirstNoThree.j1 kj4 t228 t227 (bt230.2 != t219)) else (laws_FnExactFirstNoThree.j1 kj4 t228 t227 true)))) else (some false)))) = some r := H
        have A17 := Aside0.mk A170
        clear A170
        replace H := Option.bind_eq_some_iff.mp H
        obtain ⟨t229, A180, H⟩ := H
        replace H : (if t229 < 0 then (some false) else (if t229 = t227 then ((impl_FirstNoThree.f kj4 a0 a1).bind fun bt230 => ((laws_eqPegS.f kj4 bt230.1 t218).bind fun t234 => (if t234 = true then (laws_FnExactFirstNoThree.j1 kj4 t228 t227 (bt230.2 != t219)) else (laws_FnExactFirstNoThree.j1 kj4 t228 t227 true)))) else (some false))) = some r := H
        have A18 := Aside0.mk A180
        clear A180
        by_cases c19 : t229 < 0
        · rw [if_pos c19] at H
          have c19b0 : decide (t229 < 0) = true := decide_eq_true c19
          clear c19
          exact absurd (Option.some.inj H) (by rw [hr_]; decide)
        · rw [if_neg c19] at H
          have c19b0 : decide (t229 < 0) = false := decide_eq_false c19
          clear c19
          by_cases c20 : t229 = t227
          · rw [if_pos c20] at H
            have c20b0 : (t229 == t227) = true := beq_iff_eq.mpr c20
            have c20b1 : (t229 != t227) = false := bne_eq_false_iff_eq.mpr c20
            clear c20
            replace H := Option.bind_eq_some_iff.mp H
            obtain ⟨⟨t230, t231⟩, A210, H⟩ := H
            replace H : ((laws_eqPegS.f kj4 t230 t218).bind fun t234 => (if t234 = true then (laws_FnExactFirstNoThree.j1 kj4 t228 t227 (t231 != t219)) else (laws_FnExactFirstNoThree.j1 kj4 t228 t227 true))) = some r := H
            have A21 := Aside0.mk A210
            clear A210
            have HC22 := Aside0.mk H
            clear H
            obtain ⟨Ao23, co23, eo23⟩ := Kd.R_slice HO_7.out
            subst eo23
            go_upto_region 14 with (first | ((with_reducible refine gate_callee (f := 33) rfl ?_); refine goesL_ (some 36) rfl rfl Try.func33 (by kernel_rfl) rfl #[.slice Ao23 t222.length co23, .int .i64 1] rfl ga_ ?_; (with_reducible refine (laws_markPegS.calls kj4 (fun k_ => some k_ = (.slice Ao23 t222.length co23 : Value).ownBlock) (.slice Ao23 t222.length co23) t222 1 t227 t228 w _ ?side1 ?side2 A17.out).mono ?_); (case side1 => repeat (first | (with_reducible first | exact HB.out | apply below_alloc | apply pw_below_drewN | apply below_drew1) | exact HB.out)); (case side2 => exact Kd.R_tight rfl HO_7.out); rintro e w24 ⟨rfl, hy0, hb, hkp⟩; refine ⟨_, rfl, ?_⟩; have n0_ := Aside0.mk (Kd.R_mono (ok' := fun k_ => some k_ ≠ (.slice Ao23 t222.length co23 : Value).ownBlock) (Kd.R_keptB (HO_5.out) hkp (fun k_ hk_ hs_ => (hk_) hs_)) (fun k_ hk_ => hk_.1)); have n1_ := Aside0.mk (Kd.R_reok rfl hy0 (fun k_ e_ => HO_7.out.1 k_ e_)); have n2_ := Aside0.mk (hb); clear HO_5; clear HO_7; clear HB; have HO_5 := n0_; have HO_7 := n1_; have HB := n2_; clear n0_ n1_ n2_; (try clear hb); (try clear hkp); (try clear hy0)) | ((with_reducible refine gate_callee (f := 34) rfl ?_); refine goesL_ (some 39) rfl rfl Try.func34 (by kernel_rfl) rfl #[.slice Ao23 t228.length co23, .int .i64 1] rfl (by (try simp only [List.map_toArray, List.map_cons, List.map_nil]); first | done | (rw [show t228.length = t222.length from (Kd.R_reads' HO_7.out).1.symm] <;> rfl) | rfl | (simp only [List.length_drop, List.length_take]; rfl)) ?_; (with_reducible refine (laws_heldPegS.calls kj4 _ _ t228 1 t229 _ ?side1 ?side2 A18.out).mono ?_); (case side1 => repeat (first | exact (Kd.R_reads' HO_7.out).2.2 | (with_reducible refine Kd.C_alloc ?_ _) | (with_reducible refine Kd.C_drewN ?_ _) | (with_reducible refine Kd.C_drew ?_))); (case side2 => rw [show t228.length = t222.length from (Kd.R_reads' HO_7.out).1.symm]; exact (Kd.R_reads' HO_7.out).2.1); rintro e w' ⟨rfl, ⟨nd, rfl⟩⟩; refine ⟨_, rfl, ?_⟩) | ((with_reducible refine gate_callee (f := 31) rfl ?_); refine goesL_ (some 48) rfl rfl Try.func31 (by kernel_rfl) rfl #[.int .i64 a0, .int .i64 a1] rfl ga_ ?_; (with_reducible refine (impl_FirstNoThree.calls kj4 a0 a1 t230 t231 _ A21.out).mono ?_); rintro e w25 ⟨v232, rfl, ho0, hb⟩; refine ⟨_, rfl, ?_⟩; have n0_ := Aside0.mk (Kd.R_elder' (rk_ HO_5.out) (Kd.R_base ho0) hb); have n1_ := Aside0.mk (Kd.R_elder' (rk_ HO_7.out) (Kd.R_base ho0) hb); have n2_ := Aside0.mk (Kd.R_lower (Kd.R_new' (Kd.R_new' ho0 (Kd.R_lt (rk_ HO_5.out))) (Kd.R_lt (rk_ HO_7.out))) (below_size (hb_))); have n3_ := Aside0.mk (below_step (hb_) hb); clear HO_5; clear HO_7; clear HB; have HO_5 := n0_; have HO_7 := n1_; have HO233 := n2_; have HB := n3_; clear n0_ n1_ n2_ n3_; (try clear hb); (try clear hb2); (try clear hk); (try clear hi); (try clear ho0)))
            (try simp only [Act.put, List.setIfInBounds_toArray, List.set_cons_zero, List.set_cons_succ])
            go_cut [59] (fun v59 wc => ∃ (kq : Nat) (x59_21 : Bool), v59 = .bool x59_21 ∧ Aside0 (laws_FnExactFirstNoThree.j1 kq t228 t227 x59_21 = some r) ∧ Aside0 (kq ≤ kj4) ∧ Aside0 (Kd.R k30 30 wc w.heap.size (fun _ => True) (.slice Ao23 t222.length co23) t228) ∧ Aside0 (Below w.heap.size w wc))
            case first =>
              have H := HC22.out
              clear HC22
              replace H := Option.bind_eq_some_iff.mp H
              obtain ⟨t234, A260, H⟩ := H
              replace H : (if t234 = true then (laws_FnExactFirstNoThree.j1 kj4 t228 t227 (t231 != t219)) else (laws_FnExactFirstNoThree.j1 kj4 t228 t227 true)) = some r := H
              have A26 := Aside0.mk A260
              clear A260
              by_cases c27 : t234 = true
              · subst c27
                have H1 : (laws_FnExactFirstNoThree.j1 kj4 t228 t227 (t231 != t219)) = some r := by rw [if_pos rfl] at H; exact H
                clear H
                have H := H1
                clear H1
                have H' := Aside0.mk H
                clear H
                obtain ⟨Ao28, co28, eo28⟩ := Kd.R_slice HO233.out
                subst eo28
                obtain ⟨Ao29, co29, eo29⟩ := Kd.R_slice HO_5.out
                subst eo29
                go_wp2_with (first | ((with_reducible refine gate_callee (f := 32) rfl ?_); refine goesL_ (some 53) rfl rfl Try.func32 (by kernel_rfl) rfl #[.slice Ao28 t230.length co28, .slice Ao29 t218.length co29] rfl ga_ ?_; (with_reducible refine (laws_eqPegS.calls kj4 _ _ t230 _ _ t218 true _ ?side1 ?side2 ?side3 ?side4 A26.out).mono ?_); (case side1 => repeat (first | exact (Kd.R_reads' HO233.out).2.2 | (with_reducible refine Kd.C_alloc ?_ _) | (with_reducible refine Kd.C_drewN ?_ _) | (with_reducible refine Kd.C_drew ?_))); (case side2 => exact (Kd.R_reads' HO233.out).2.1); (case side3 => repeat (first | exact (Kd.R_reads' HO_5.out).2.2 | (with_reducible refine Kd.C_alloc ?_ _) | (with_reducible refine Kd.C_drewN ?_ _) | (with_reducible refine Kd.C_drew ?_))); (case side4 => exact (Kd.R_reads' HO_5.out).2.1); rintro e w30 ⟨rfl, hb⟩; refine ⟨_, rfl, ?_⟩; have n0_ := Aside0.mk (Kd.R_below (rk_ HO_5.out) hb); have n1_ := Aside0.mk (Kd.R_below (rk_ HO_7.out) hb); have n2_ := Aside0.mk (Kd.R_below (rk_ HO233.out) hb); have n3_ := Aside0.mk (below_step (hb_) hb); clear HO_5; clear HO_7; clear HO233; clear HB; have HO_5 := n0_; have HO_7 := n1_; have HO233 := n2_; have HB := n3_; clear n0_ n1_ n2_ n3_; (try clear hb); (try clear hb2); (try clear hk); (try clear hi)))
                go_meet
                case rel => exact ⟨_, ((t231 != t219)), (by first | rfl | (simp; done) | (simp [*]; done)), H', ⟨by have := HJ4.out; first | omega | exact Nat.le_refl _⟩, ⟨by (with_reducible repeat (first | apply Kd.R_alloc | apply Kd.R_drewN | apply Kd.R_drew)); exact Kd.R_mono HO_7.out (fun _ hk => trivial)⟩, ⟨hb_⟩⟩
              · replace c27 := Bool.eq_false_iff.mpr c27
                subst c27
                have H1 : (laws_FnExactFirstNoThree.j1 kj4 t228 t227 true) = some r := by rw [if_neg (show ¬ (false = true) by decide)] at H; exact H
                clear H
                have H := H1
                clear H1
                have H' := Aside0.mk H
                clear H
                obtain ⟨Ao31, co31, eo31⟩ := Kd.R_slice HO233.out
                subst eo31
                obtain ⟨Ao32, co32, eo32⟩ := Kd.R_slice HO_5.out
                subst eo32
                go_wp2_with (first | ((with_reducible refine gate_callee (f := 32) rfl ?_); refine goesL_ (some 53) rfl rfl Try.func32 (by kernel_rfl) rfl #[.slice Ao31 t230.length co31, .slice Ao32 t218.length co32] rfl ga_ ?_; (with_reducible refine (laws_eqPegS.calls kj4 _ _ t230 _ _ t218 false _ ?side1 ?side2 ?side3 ?side4 A26.out).mono ?_); (case side1 => repeat (first | exact (Kd.R_reads' HO233.out).2.2 | (with_reducible refine Kd.C_alloc ?_ _) | (with_reducible refine Kd.C_drewN ?_ _) | (with_reducible refine Kd.C_drew ?_))); (case side2 => exact (Kd.R_reads' HO233.out).2.1); (case side3 => repeat (first | exact (Kd.R_reads' HO_5.out).2.2 | (with_reducible refine Kd.C_alloc ?_ _) | (with_reducible refine Kd.C_drewN ?_ _) | (with_reducible refine Kd.C_drew ?_))); (case side4 => exact (Kd.R_reads' HO_5.out).2.1); rintro e w33 ⟨rfl, hb⟩; refine ⟨_, rfl, ?_⟩; have n0_ := Aside0.mk (Kd.R_below (rk_ HO_5.out) hb); have n1_ := Aside0.mk (Kd.R_below (rk_ HO_7.out) hb); have n2_ := Aside0.mk (Kd.R_below (rk_ HO233.out) hb); have n3_ := Aside0.mk (below_step (hb_) hb); clear HO_5; clear HO_7; clear HO233; clear HB; have HO_5 := n0_; have HO_7 := n1_; have HO233 := n2_; have HB := n3_; clear n0_ n1_ n2_ n3_; (try clear hb); (try clear hb2); (try clear hk); (try clear hi)))
                go_meet
                case rel => exact ⟨_, (true), (by first | rfl | (simp; done) | (simp [*]; done)), H', ⟨by have := HJ4.out; first | omega | exact Nat.le_refl _⟩, ⟨by (with_reducible repeat (first | apply Kd.R_alloc | apply Kd.R_drewN | apply Kd.R_drew)); exact Kd.R_mono HO_7.out (fun _ hk => trivial)⟩, ⟨hb_⟩⟩
            case rest =>
              clear HC22
              try clear c1
              try clear c2
              try clear p2
              try clear c3
              try clear c9
              try clear c10
              try clear c16
              try clear c19
              try clear c19b0
              try clear c20
              try clear c20b0
              try clear c20b1
              try clear c27
              try clear c30
              try clear c31
              try clear c32
              try clear c33
              try clear p2
              obtain ⟨kq, x59_21, rfl, HA, HJ21, HO_7, HB⟩ := hcut
              have hl7_21 := (Kd.R_reads' HO_7.out).1
              rw [hl7_21] at HO_7
              (try simp only [hl7_21])
              cases kq with
              | zero => exact absurd HA.out (by simp [laws_FnExactFirstNoThree.j1])
              | succ kj21 =>
                have H := HA.out
                clear HA
                simp only [laws_FnExactFirstNoThree.j1] at H
                by_cases c34 : x59_21 = true
                · subst c34
                  have H1 : (some false) = some r := by rw [if_pos rfl] at H; exact H
                  clear H
                  have H := H1
                  clear H1
                  exact absurd (Option.some.inj H) (by rw [hr_]; decide)
                · replace c34 := Bool.eq_false_iff.mpr c34
                  subst c34
                  have H1 : ((laws_heldPegS.f kj21 t228 1).bind fun t235 => (if t235 < 0 then (some false) else (if t235 = t227 then (some true) else (some false)))) = some r := by rw [if_neg (show ¬ (false = true) by decide)] at H; exact H
                  clear H
                  have H := H1
                  clear H1
                  replace H := Option.bind_eq_some_iff.mp H
                  obtain ⟨t235, A350, H⟩ := H
                  replace H : (if t235 < 0 then (some false) else (if t235 = t227 then (some true) else (some false))) = some r := H
                  have A35 := Aside0.mk A350
                  clear A350
                  by_cases c36 : t235 < 0
                  · rw [if_pos c36] at H
                    have c36b0 : decide (t235 < 0) = true := decide_eq_true c36
                    clear c36
                    exact absurd (Option.some.inj H) (by rw [hr_]; decide)
                  · rw [if_neg c36] at H
                    have c36b0 : decide (t235 < 0) = false := decide_eq_false c36
                    clear c36
                    by_cases c37 : t235 = t227
                    · rw [if_pos c37] at H
                      have c37b0 : (t235 == t227) = true := beq_iff_eq.mpr c37
                      have c37b1 : (t235 != t227) = false := bne_eq_false_iff_eq.mpr c37
                      clear c37
                      obtain rfl := Option.some.inj H
                      go_wp2_with (first | ((with_reducible refine gate_callee (f := 34) rfl ?_); refine goesL_ (some 62) rfl rfl Try.func34 (by kernel_rfl) rfl #[.slice Ao23 t228.length co23, .int .i64 1] rfl ga_ ?_; (with_reducible refine (laws_heldPegS.calls kj21 _ _ t228 1 t235 _ ?side1 ?side2 A35.out).mono ?_); (case side1 => repeat (first | exact (Kd.R_reads' HO_7.out).2.2 | (with_reducible refine Kd.C_alloc ?_ _) | (with_reducible refine Kd.C_drewN ?_ _) | (with_reducible refine Kd.C_drew ?_))); (case side2 => exact (Kd.R_reads' HO_7.out).2.1); rintro e w' ⟨rfl, ⟨nd, rfl⟩⟩; refine ⟨_, rfl, ?_⟩))
                      go_ret
                      exact ⟨by first | rfl | (simp [errW_none, errW_some] <;> rfl) | (simp [*, errW_none, errW_some] <;> rfl), hb_⟩
                    · rw [if_neg c37] at H
                      have c37b0 : (t235 == t227) = false := beq_eq_false_iff_ne.mpr c37
                      have c37b1 : (t235 != t227) = true := bne_iff_ne.mpr c37
                      exact absurd (Option.some.inj H) (by rw [hr_]; decide)
          · rw [if_neg c20] at H
            have c20b0 : (t229 == t227) = false := beq_eq_false_iff_ne.mpr c20
            have c20b1 : (t229 != t227) = true := bne_iff_ne.mpr c20
            exact absurd (Option.some.inj H) (by rw [hr_]; decide)

/-! ### spec_MostNoThree: function 28 -/
def spec_MostNoThree.f (k : Nat) (a0 : Int) (a1 : Int) : Option (Int × Bool) := (spec_ctBoard.f a0 a1 4).bind fun t236 => (if t236 = true then ((spec_ctPegs.f k a0 a1).bind fun t237 => ((spec_ctLook.f k t237 ([] : List (S30)) 0).bind fun t240 => (some ((t240.length : Int), true)))) else (some (0, false)))
theorem spec_MostNoThree.mono : ∀ a0 a1 k, LeO (spec_MostNoThree.f k a0 a1) (spec_MostNoThree.f (k + 1) a0 a1) := by
  intro a0 a1 k
  unfold spec_MostNoThree.f
  repeat' first
      | (with_reducible exact spec_ctLook.mono _ _ _ _)
      | (with_reducible exact spec_ctPegs.mono _ _ _)
      | (with_reducible exact LeO.refl _)
      | (with_reducible exact LeO.none _)
      | (with_reducible refine LeO.ite ?_ ?_)
      | (with_reducible refine LeO.bind ?_ (fun _ => ?_))
      | exact spec_ctLook.mono _ _ _ _
      | exact spec_ctPegs.mono _ _ _
      | exact LeO.none _
      | refine LeO.ite ?_ ?_
      | refine LeO.bind ?_ (fun _ => ?_)
set_option maxHeartbeats 8000000 in
set_option maxRecDepth 100000 in
theorem spec_MostNoThree.calls (k : Nat) (a0 : Int) (a1 : Int) (r1 : Int) (r2 : Bool) (w : World) (h : spec_MostNoThree.f k a0 a1 = some (r1, r2)) :
    Calls Try.prog 28 #[.int .i64 a0, .int .i64 a1] w fun e w' => e = .returned (.tuple #[.int .i64 r1, .bool r2]) ∧ Below w.heap.size w w' := by
  have HB := Aside0.mk (Below.refl w.heap.size w)
  have H : ((spec_ctBoard.f a0 a1 4).bind fun t236 => (if t236 = true then ((spec_ctPegs.f k a0 a1).bind fun t237 => ((spec_ctLook.f k t237 ([] : List (S30)) 0).bind fun t240 => (some ((t240.length : Int), true)))) else (some (0, false)))) = some (r1, r2) := h
  clear h
  replace H := Option.bind_eq_some_iff.mp H
  obtain ⟨t236, A30, H⟩ := H
  replace H : (if t236 = true then ((spec_ctPegs.f k a0 a1).bind fun t237 => ((spec_ctLook.f k t237 ([] : List (S30)) 0).bind fun t240 => (some ((t240.length : Int), true)))) else (some (0, false))) = some (r1, r2) := H
  have A3 := Aside0.mk A30
  clear A30
  by_cases c4 : t236 = true
  · subst c4
    have H1 : ((spec_ctPegs.f k a0 a1).bind fun t237 => ((spec_ctLook.f k t237 ([] : List (S30)) 0).bind fun t240 => (some ((t240.length : Int), true)))) = some (r1, r2) := by rw [if_pos rfl] at H; exact H
    clear H
    have H := H1
    clear H1
    replace H := Option.bind_eq_some_iff.mp H
    obtain ⟨t237, A50, H⟩ := H
    replace H : ((spec_ctLook.f k t237 ([] : List (S30)) 0).bind fun t240 => (some ((t240.length : Int), true))) = some (r1, r2) := H
    have A5 := Aside0.mk A50
    clear A50
    replace H := Option.bind_eq_some_iff.mp H
    obtain ⟨t240, A60, H⟩ := H
    replace H : (some ((t240.length : Int), true)) = some (r1, r2) := H
    have A6 := Aside0.mk A60
    clear A60
    simp only [Option.some.injEq, Prod.mk.injEq] at H
    obtain ⟨rfl, rfl⟩ := H
    go_enter Try.func28, Try.ntmps28
    go_wp2_with (first | ((with_reducible refine gate_callee (f := 43) rfl ?_); refine goesL_ (some 8) rfl rfl Try.func43 (by kernel_rfl) rfl #[.int .i64 a0, .int .i64 a1, .int .i64 4] rfl ga_ ?_; (with_reducible refine (spec_ctBoard.calls a0 a1 4 true _ A3.out).mono ?_); rintro e w' ⟨rfl, ⟨nd, rfl⟩⟩; refine ⟨_, rfl, ?_⟩) | ((with_reducible refine gate_callee (f := 51) rfl ?_); refine goesL_ (some 12) rfl rfl Try.func51 (by kernel_rfl) rfl #[.int .i64 a0, .int .i64 a1] rfl ga_ ?_; (with_reducible refine (spec_ctPegs.calls k a0 a1 t237 _ A5.out).mono ?_); rintro e w7 ⟨v238, rfl, ho0, hb⟩; refine ⟨_, rfl, ?_⟩; have n0_ := Aside0.mk (Kd.R_lower ho0 (below_size (hb_))); have n1_ := Aside0.mk (below_step (hb_) hb); clear HB; have HO239 := n0_; have HB := n1_; clear n0_ n1_; (try clear hb); (try clear hb2); (try clear hk); (try clear hi); (try clear ho0); obtain ⟨Ao8, co8, eo8⟩ := Kd.R_slice HO239.out; subst eo8) | ((with_reducible refine gate_callee (f := 68) rfl ?_); refine goesL_ (some 13) rfl rfl Try.func68 (by kernel_rfl) rfl #[.slice Ao8 t237.length co8, .slice none 0 0, .int .i64 0] rfl ga_ ?_; (refine (spec_ctLook.calls k _ _ t237 _ _ ([] : List (S30)) 0 t240 _ ?side1 ?side2 ?side3 ?side4 A6.out).mono ?_); (case side1 => repeat (first | exact (Kd.R_reads' HO239.out).2.2 | (with_reducible refine Kd.C_alloc ?_ _) | (with_reducible refine Kd.C_drewN ?_ _) | (with_reducible refine Kd.C_drew ?_))); (case side2 => exact (Kd.R_reads' HO239.out).2.1); (case side3 => exact Kd.C_nil _ _); (case side4 => exact Nat.le_refl _); rintro e w9 ⟨v241, rfl, ho0, hb⟩; refine ⟨_, rfl, ?_⟩; have n0_ := Aside0.mk (Kd.R_elder' (rk_ HO239.out) (Kd.R_base ho0) hb); have n1_ := Aside0.mk (Kd.R_lower (Kd.R_new' ho0 (Kd.R_lt (rk_ HO239.out))) (below_size (hb_))); have n2_ := Aside0.mk (below_step (hb_) hb); clear HO239; clear HB; have HO239 := n0_; have HO242 := n1_; have HB := n2_; clear n0_ n1_ n2_; (try clear hb); (try clear hb2); (try clear hk); (try clear hi); (try clear ho0); obtain ⟨Ao10, co10, eo10⟩ := Kd.R_slice HO242.out; subst eo10))
    go_ret2
    exact ⟨by first | rfl | (simp [errW_none, errW_some] <;> rfl) | (simp [*, errW_none, errW_some] <;> rfl), hb_⟩
  · replace c4 := Bool.eq_false_iff.mpr c4
    subst c4
    have H1 : (some (0, false)) = some (r1, r2) := by rw [if_neg (show ¬ (false = true) by decide)] at H; exact H
    clear H
    have H := H1
    clear H1
    simp only [Option.some.injEq, Prod.mk.injEq] at H
    obtain ⟨rfl, rfl⟩ := H
    go_enter Try.func28, Try.ntmps28
    go_wp2_with (first | ((with_reducible refine gate_callee (f := 43) rfl ?_); refine goesL_ (some 8) rfl rfl Try.func43 (by kernel_rfl) rfl #[.int .i64 a0, .int .i64 a1, .int .i64 4] rfl ga_ ?_; (with_reducible refine (spec_ctBoard.calls a0 a1 4 false _ A3.out).mono ?_); rintro e w' ⟨rfl, ⟨nd, rfl⟩⟩; refine ⟨_, rfl, ?_⟩))
    go_ret2
    exact ⟨by first | rfl | (simp [errW_none, errW_some] <;> rfl) | (simp [*, errW_none, errW_some] <;> rfl), hb_⟩

/-! ### impl_MostNoThree: function 29 -/
def impl_MostNoThree.f (k : Nat) (a0 : Int) (a1 : Int) : Option (Int × Bool) := (impl_FirstNoThree.f k a0 a1).bind fun bt243 => (some ((bt243.1.length : Int), bt243.2))
theorem impl_MostNoThree.mono : ∀ a0 a1 k, LeO (impl_MostNoThree.f k a0 a1) (impl_MostNoThree.f (k + 1) a0 a1) := by
  intro a0 a1 k
  unfold impl_MostNoThree.f
  repeat' first
      | (with_reducible exact impl_FirstNoThree.mono _ _ _)
      | (with_reducible exact LeO.refl _)
      | (with_reducible exact LeO.none _)
      | (with_reducible refine LeO.ite ?_ ?_)
      | (with_reducible refine LeO.bind ?_ (fun _ => ?_))
      | exact impl_FirstNoThree.mono _ _ _
      | exact LeO.none _
      | refine LeO.ite ?_ ?_
      | refine LeO.bind ?_ (fun _ => ?_)
set_option maxHeartbeats 8000000 in
set_option maxRecDepth 100000 in
theorem impl_MostNoThree.calls (k : Nat) (a0 : Int) (a1 : Int) (r1 : Int) (r2 : Bool) (w : World) (h : impl_MostNoThree.f k a0 a1 = some (r1, r2)) :
    Calls Try.prog 29 #[.int .i64 a0, .int .i64 a1] w fun e w' => e = .returned (.tuple #[.int .i64 r1, .bool r2]) ∧ Below w.heap.size w w' := by
  have HB := Aside0.mk (Below.refl w.heap.size w)
  have H : ((impl_FirstNoThree.f k a0 a1).bind fun bt243 => (some ((bt243.1.length : Int), bt243.2))) = some (r1, r2) := h
  clear h
  replace H := Option.bind_eq_some_iff.mp H
  obtain ⟨⟨t243, t244⟩, A30, H⟩ := H
  replace H : (some ((t243.length : Int), t244)) = some (r1, r2) := H
  have A3 := Aside0.mk A30
  clear A30
  simp only [Option.some.injEq, Prod.mk.injEq] at H
  obtain ⟨rfl, rfl⟩ := H
  go_enter Try.func29, Try.ntmps29
  go_wp2_with (first | ((with_reducible refine gate_callee (f := 31) rfl ?_); refine goesL_ (some 11) rfl rfl Try.func31 (by kernel_rfl) rfl #[.int .i64 a0, .int .i64 a1] rfl ga_ ?_; (with_reducible refine (impl_FirstNoThree.calls k a0 a1 t243 t244 _ A3.out).mono ?_); rintro e w4 ⟨v245, rfl, ho0, hb⟩; refine ⟨_, rfl, ?_⟩; have n0_ := Aside0.mk (Kd.R_lower ho0 (below_size (hb_))); have n1_ := Aside0.mk (below_step (hb_) hb); clear HB; have HO246 := n0_; have HB := n1_; clear n0_ n1_; (try clear hb); (try clear hb2); (try clear hk); (try clear hi); (try clear ho0); obtain ⟨Ao5, co5, eo5⟩ := Kd.R_slice HO246.out; subst eo5))
  go_ret2
  exact ⟨by first | rfl | (simp [errW_none, errW_some] <;> rfl) | (simp [*, errW_none, errW_some] <;> rfl), hb_⟩

end Go.Proofs.Ytookmifpgclhlaa.MN
