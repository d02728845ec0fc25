-- Written by a program of this session (wip/print/myprint.py) over the kit's printer; Lean checks it.
import Derived.Test.YtogafcjfaicpgaaMBx0
import Derived.Test.YtogafcjfaicpgaaMBx6
import Derived.Test.YtogafcjfaicpgaaMBx14
import Derived.Test.YtogafcjfaicpgaaMBx15
import Derived.Test.YtogafcjfaicpgaaMBx16
namespace Go.Proofs.Ytogafcjfaicpgaa.MB
open Go.RowKit Go.Proofs.YtogafcjfaicpgaaW.PrintWords Go.Proofs.YtogafcjfaicpgaaW.PrintLast Go.Proofs.YtogafcjfaicpgaaW.PrintMore Go.Proofs.YtogafcjfaicpgaaV
attribute [local go_sem] max2_int min2_int max_two min_two max_three min_three max_four min_four   -- for this text's walks alone
set_option linter.unusedVariables false
set_option linter.unusedSimpArgs false

/-! ### laws_heldIntSS: function 10 -/
def laws_heldIntSS.l0 : Nat → List (List Int) → Int → Int → Option (Int)
  | 0, _, _, _ => none
  | k + 1, x0, x1, x5 => if x5 < (x0.length : Int) then (if 0 ≤ x5 then ((laws_heldIntS.f k (rd_L2 x0 x5) x1).bind fun t225 => (if t225 < 0 then (some (-1)) else (laws_heldIntSS.l0 k x0 t225 (wrap64 (x5 + 1))))) else (none)) else (some x1)
def laws_heldIntSS.f (k : Nat) (l0 : List (List Int)) (a1 : Int) : Option (Int) := laws_heldIntSS.l0 k l0 a1 0
theorem laws_heldIntSS.mono_l : ∀ k, (∀ y0 y1 y2, LeO (laws_heldIntSS.l0 k y0 y1 y2) (laws_heldIntSS.l0 (k + 1) y0 y1 y2))
  | 0 => fun _ _ _ r h => by simp [laws_heldIntSS.l0] at h
  | k + 1 => by
    have ih0 := laws_heldIntSS.mono_l k
    · intro y0 y1 y2
      unfold laws_heldIntSS.l0
      repeat' first
      | (with_reducible exact ih0 _ _ _)
      | (with_reducible exact laws_heldIntS.mono _ _ _)
      | (with_reducible exact LeO.refl _)
      | (with_reducible exact LeO.none _)
      | (with_reducible refine LeO.ite ?_ ?_)
      | (with_reducible refine LeO.bind ?_ (fun _ => ?_))
      | exact ih0 _ _ _
      | exact laws_heldIntS.mono _ _ _
      | exact LeO.none _
      | refine LeO.ite ?_ ?_
      | refine LeO.bind ?_ (fun _ => ?_)
theorem laws_heldIntSS.mono : ∀ a0 a1 k, LeO (laws_heldIntSS.f k a0 a1) (laws_heldIntSS.f (k + 1) a0 a1) := by
  intro a0 a1 k
  have ih0 := laws_heldIntSS.mono_l k
  unfold laws_heldIntSS.f
  repeat' first
      | (with_reducible exact ih0 _ _ _)
      | (with_reducible exact laws_heldIntS.mono _ _ _)
      | (with_reducible exact LeO.refl _)
      | (with_reducible exact LeO.none _)
      | (with_reducible refine LeO.ite ?_ ?_)
      | (with_reducible refine LeO.bind ?_ (fun _ => ?_))
      | exact ih0 _ _ _
      | exact laws_heldIntS.mono _ _ _
      | exact LeO.none _
      | refine LeO.ite ?_ ?_
      | refine LeO.bind ?_ (fun _ => ?_)
set_option maxHeartbeats 8000000 in
set_option maxRecDepth 100000 in
theorem laws_heldIntSS.calls (k : Nat) (A0 : Option Addr) (c0 : Nat) (l0 : List (List Int)) (a1 : Int) (r : Int) (w : World) (hr0 : Kd.C (Kd.slice 3 (Kd.int .i64)) w A0 l0.length l0) (hc0 : l0.length ≤ c0) (h : laws_heldIntSS.f k l0 a1 = some r) :
    Calls Try.prog 10 #[.slice A0 l0.length c0, .int .i64 a1] w fun e w' => e = .returned (.int .i64 r) ∧ Drawn0 w w' := by
  have HR0 := Aside0.mk hr0
  have HC0 := Aside0.mk hc0
  clear hr0 hc0
  have H : (laws_heldIntSS.l0 k l0 a1 0) = some r := h
  clear h
  have H' := Aside0.mk H
  clear H
  go_enter Try.func10, Try.ntmps10
  go_wp2
  go_loopg [1, 5] k (fun kq v1 v5 w' => ∃ (x1_1 : Int) (x5_1 : Int), v1 = .int .i64 x1_1 ∧ v5 = .int .i64 x5_1 ∧ Aside0 (laws_heldIntSS.l0 kq l0 x1_1 x5_1 = some r) ∧ Aside0 (kq ≤ k) ∧ Drawn0 w w')
  case atStart => exact ⟨(a1), (0), (by first | rfl | (simp; done) | (simp [*]; done)), (by first | rfl | (simp; done) | (simp [*]; done)), H', ⟨Nat.le_refl _⟩, by repeat (first | exact Drawn0.refl _ | apply Drawn0.step)⟩
  case round =>
    clear H'
    try clear c1
    try clear p2
    obtain ⟨x1_1, x5_1, rfl, rfl, HA, HK1, ⟨m1, rfl⟩⟩ := hrel
    cases gk with
    | zero => exact absurd HA.out (by simp [laws_heldIntSS.l0])
    | succ k1 =>
      have H := HA.out
      clear HA
      simp only [laws_heldIntSS.l0] at H
      by_cases c3 : x5_1 < (l0.length : Int)
      · rw [if_pos c3] at H
        have c3b0 : decide (x5_1 < (l0.length : Int)) = true := decide_eq_true c3
        clear c3
        by_cases c4 : 0 ≤ x5_1
        · rw [if_pos c4] at H
          have c4b0 : decide (0 ≤ x5_1) = true := decide_eq_true c4
          clear c4
          replace H := Option.bind_eq_some_iff.mp H
          obtain ⟨t225, A50, H⟩ := H
          replace H : (if t225 < 0 then (some (-1)) else (laws_heldIntSS.l0 k1 l0 t225 (wrap64 (x5_1 + 1)))) = some r := H
          have A5 := Aside0.mk A50
          clear A50
          by_cases c6 : t225 < 0
          · rw [if_pos c6] at H
            have c6b0 : decide (t225 < 0) = true := decide_eq_true c6
            clear c6
            obtain rfl := Option.some.inj H
            have p224 : 0 ≤ (x5_1 : Int) := odt_
            have q224 : x5_1 < (l0.length : Int) := odt_
            obtain ⟨ad224, A224_0, c224_0, e224, hx224_0, hl224_0, hi224_0⟩ := at_L2 HR0.out x5_1 p224 q224
            cases e224
            have HR224_0 := Aside0.mk hi224_0
            have HC224_0 := Aside0.mk hl224_0
            clear hi224_0 hl224_0
            replace p224 := eq_true p224
            replace q224 := eq_true q224
            go_wp2_with (first | ((with_reducible refine gate_callee (f := 29) rfl ?_); refine goesL_ (some 17) rfl rfl Try.func29 (by kernel_rfl) rfl #[.slice A224_0 (rd_L2 l0 x5_1).length c224_0, .int .i64 x1_1] rfl ga_ ?_; (with_reducible refine (laws_heldIntS.calls k1 _ _ (rd_L2 l0 x5_1) x1_1 t225 _ ?side1 ?side2 A5.out).mono ?_); (case side1 => repeat (first | exact HR224_0.out | (with_reducible refine Kd.C_alloc ?_ _) | (with_reducible refine Kd.C_drewN ?_ _) | (with_reducible refine Kd.C_drew ?_))); (case side2 => exact HC224_0.out); rintro e w' ⟨rfl, ⟨nd, rfl⟩⟩; refine ⟨_, rfl, ?_⟩))
            go_ret
            exact ⟨by first | rfl | (simp; done) | (simp [*]; done), by repeat (first | exact Drawn0.refl _ | apply Drawn0.step)⟩
          · rw [if_neg c6] at H
            have c6b0 : decide (t225 < 0) = false := decide_eq_false c6
            clear c6
            have H' := Aside0.mk H
            clear H
            have p224 : 0 ≤ (x5_1 : Int) := odt_
            have q224 : x5_1 < (l0.length : Int) := odt_
            obtain ⟨ad224, A224_0, c224_0, e224, hx224_0, hl224_0, hi224_0⟩ := at_L2 HR0.out x5_1 p224 q224
            cases e224
            have HR224_0 := Aside0.mk hi224_0
            have HC224_0 := Aside0.mk hl224_0
            clear hi224_0 hl224_0
            replace p224 := eq_true p224
            replace q224 := eq_true q224
            go_wp2_with (first | ((with_reducible refine gate_callee (f := 29) rfl ?_); refine goesL_ (some 17) rfl rfl Try.func29 (by kernel_rfl) rfl #[.slice A224_0 (rd_L2 l0 x5_1).length c224_0, .int .i64 x1_1] rfl ga_ ?_; (with_reducible refine (laws_heldIntS.calls k1 _ _ (rd_L2 l0 x5_1) x1_1 t225 _ ?side1 ?side2 A5.out).mono ?_); (case side1 => repeat (first | exact HR224_0.out | (with_reducible refine Kd.C_alloc ?_ _) | (with_reducible refine Kd.C_drewN ?_ _) | (with_reducible refine Kd.C_drew ?_))); (case side2 => exact HC224_0.out); rintro e w' ⟨rfl, ⟨nd, rfl⟩⟩; refine ⟨_, rfl, ?_⟩))
            go_roundg k1
            case measure => have := HK1.out; omega
            case rel => exact ⟨(t225), (wrap64 (x5_1 + 1)), (by first | rfl | (simp; done) | (simp [*]; done)), (by first | rfl | (simp; done) | (simp [*]; done)), H', ⟨by have := HK1.out; omega⟩, by repeat (first | exact Drawn0.refl _ | apply Drawn0.step)⟩
        · rw [if_neg c4] at H
          exact absurd H (by simp)
      · rw [if_neg c3] at H
        have c3b0 : decide (x5_1 < (l0.length : Int)) = false := decide_eq_false c3
        clear c3
        obtain rfl := Option.some.inj H
        go_wp2
        go_ret
        exact ⟨by first | rfl | (simp; done) | (simp [*]; done), by repeat (first | exact Drawn0.refl _ | apply Drawn0.step)⟩

/-! ### laws_FnExactAllAround: function 3 (a contract by hand: rows of rows, written) -/
/-- heldIntSS at a slice whose length is named otherwise. -/
theorem heldSS_n (k : Nat) (A0 : Option Addr) (c0 n : Nat) (l0 : List (List Int)) (a1 r : Int) (w : World) (hn : n = l0.length) (hr0 : Kd.C (Kd.slice 3 (Kd.int .i64)) w A0 l0.length l0) (hc0 : n ≤ c0) (h : laws_heldIntSS.f k l0 a1 = some r) :
    Calls Try.prog 10 #[.slice A0 n c0, .int .i64 a1] w fun e w' => e = .returned (.int .i64 r) ∧ Drawn0 w w' := by
  subst hn
  exact laws_heldIntSS.calls k A0 c0 l0 a1 r w hr0 hc0 h
def laws_FnExactAllAround.f (k : Nat) (a0 : Int) : Option Bool := (spec_AllAround.f k a0).bind fun s => (impl_AllAround.f k a0).bind fun g => (laws_eqIntSS.f k g.1 s.1).bind fun e => (if e = true then (if (g.2 != s.2) = true then none else (laws_markIntSS.f k g.1 1).bind fun m => (laws_heldIntSS.f k m.2 1).bind fun q => (if q < 0 then none else (if q = m.1 then (impl_AllAround.f k a0).bind fun h => (laws_eqIntSS.f k h.1 s.1).bind fun e2 => (if e2 = true then (if (h.2 != s.2) = true then none else (laws_heldIntSS.f k m.2 1).bind fun q2 => (if q2 < 0 then none else (if q2 = m.1 then some true else none))) else none) else none))) else none)
theorem laws_FnExactAllAround.mono : ∀ a0 k, LeO (laws_FnExactAllAround.f k a0) (laws_FnExactAllAround.f (k + 1) a0) := by
  intro a0 k
  unfold laws_FnExactAllAround.f
  repeat' first
      | (with_reducible exact impl_AllAround.mono _ _)
      | (with_reducible exact spec_AllAround.mono _ _)
      | (with_reducible exact laws_eqIntSS.mono _ _ _)
      | (with_reducible exact laws_markIntSS.mono _ _ _)
      | (with_reducible exact laws_heldIntSS.mono _ _ _)
      | (with_reducible exact LeO.refl _)
      | (with_reducible exact LeO.none _)
      | (with_reducible refine LeO.ite ?_ ?_)
      | (with_reducible refine LeO.bind ?_ (fun _ => ?_))
set_option maxHeartbeats 8000000 in
set_option maxRecDepth 100000 in
theorem laws_FnExactAllAround.calls (k : Nat) (a0 : Int) (r : Bool) (w : World) (hr_ : r = true) (h : laws_FnExactAllAround.f k a0 = some r) :
    Calls Try.prog 3 #[.int .i64 a0] w fun e w' => e = .returned (.bool r) ∧ Below w.heap.size w w' := by
  have HB := Aside0.mk (Below.refl w.heap.size w)
  subst hr_
  unfold laws_FnExactAllAround.f at h
  replace h := Option.bind_eq_some_iff.mp h
  obtain ⟨⟨ts1, ts2⟩, A10, h⟩ := h
  replace h := Option.bind_eq_some_iff.mp h
  obtain ⟨⟨tg1, tg2⟩, A20, h⟩ := h
  replace h := Option.bind_eq_some_iff.mp h
  obtain ⟨e1, A30, h⟩ := h
  by_cases d1 : e1 = true
  case neg => rw [if_neg d1] at h; cases h
  rw [if_pos d1] at h
  subst d1
  by_cases d2 : (tg2 != ts2) = true
  case pos => rw [if_pos d2] at h; cases h
  rw [if_neg d2] at h
  replace h := Option.bind_eq_some_iff.mp h
  obtain ⟨⟨tm1, tm2⟩, A40, h⟩ := h
  replace h := Option.bind_eq_some_iff.mp h
  obtain ⟨q1, A50, h⟩ := h
  by_cases d3 : q1 < 0
  case pos => rw [if_pos d3] at h; cases h
  rw [if_neg d3] at h
  by_cases d4 : q1 = tm1
  case neg => rw [if_neg d4] at h; cases h
  rw [if_pos d4] at h
  replace h := Option.bind_eq_some_iff.mp h
  obtain ⟨⟨th1, th2⟩, A60, h⟩ := h
  replace h := Option.bind_eq_some_iff.mp h
  obtain ⟨e2, A70, h⟩ := h
  by_cases d5 : e2 = true
  case neg => rw [if_neg d5] at h; cases h
  rw [if_pos d5] at h
  subst d5
  by_cases d6 : (th2 != ts2) = true
  case pos => rw [if_pos d6] at h; cases h
  rw [if_neg d6] at h
  replace h := Option.bind_eq_some_iff.mp h
  obtain ⟨q2, A80, h⟩ := h
  by_cases d7 : q2 < 0
  case pos => rw [if_pos d7] at h; cases h
  rw [if_neg d7] at h
  by_cases d8 : q2 = tm1
  case neg => rw [if_neg d8] at h; cases h
  clear h
  have A1 := Aside0.mk A10
  have A2 := Aside0.mk A20
  have A3 := Aside0.mk A30
  have A4 := Aside0.mk A40
  have A5 := Aside0.mk A50
  have A6 := Aside0.mk A60
  have A7 := Aside0.mk A70
  have A8 := Aside0.mk A80
  clear A10 A20 A30 A40 A50 A60 A70 A80
  obtain rfl : tg2 = ts2 := by simpa using d2
  have b3 : decide (q1 < 0) = false := decide_eq_false d3
  have b4 : (q1 == tm1) = true := beq_iff_eq.mpr d4
  have b4b : (q1 != tm1) = false := bne_eq_false_iff_eq.mpr d4
  obtain rfl : th2 = tg2 := by simpa using d6
  have b7 : decide (q2 < 0) = false := decide_eq_false d7
  have b8 : (q2 == tm1) = true := beq_iff_eq.mpr d8
  have b8b : (q2 != tm1) = false := bne_eq_false_iff_eq.mpr d8
  clear d2 d3 d4 d6 d7 d8
  go_enter Try.func3, Try.ntmps3
  go_wp2_with (first
    | ((with_reducible refine gate_callee (f := 6) rfl ?_); refine goesL_ (some 13) rfl rfl Try.func6 (by kernel_rfl) rfl #[.int .i64 a0] rfl ga_ ?_; (with_reducible refine (spec_AllAround.calls k a0 ts1 _ _ A1.out).mono ?_); rintro e w6 ⟨v6, rfl, ho0, hb⟩; refine ⟨_, rfl, ?_⟩; obtain ⟨N_, hN_⟩ : ∃ N_, N_ = w6.heap.size := ⟨_, rfl⟩; have HN := Aside0.mk hN_; have n0_ := Aside0.mk (Kd.S_mono (ok' := fun k_ => k_ < N_) (Kd.S_bound (Kd.S_lower ho0 (below_size (hb_)))) (fun k_ hk_ => Nat.lt_of_lt_of_eq hk_.2.2.1 hN_.symm)); have n1_ := Aside0.mk (below_step (hb_) hb); clear HB; have HS := n0_; have HB := n1_; clear n0_ n1_ hb ho0 hN_; obtain ⟨As, cs, es⟩ := Kd.S_slice HS.out; subst es)
    | ((with_reducible refine gate_callee (f := 7) rfl ?_); refine goesL_ (some 18) rfl rfl Try.func7 (by kernel_rfl) rfl #[.int .i64 a0] rfl ga_ ?_; (with_reducible refine (impl_AllAround.calls k a0 tg1 _ _ A2.out).mono ?_); rintro e w7 ⟨v7, rfl, ho0, hb⟩; refine ⟨_, rfl, ?_⟩; have n0_ := Aside0.mk (Kd.S_below (by (with_reducible repeat (first | apply Kd.S_alloc | apply Kd.S_drewN | apply Kd.S_drew)); exact HS.out) hb); have n2_ := Aside0.mk (Kd.S_lower (Kd.S_mono (ok' := fun k_ => N_ ≤ k_) (Kd.S_bound ho0) (fun k_ hk_ => Nat.le_trans (Nat.le_of_eq HN.out) hk_.2.1)) (below_size (hb_))); have n1_ := Aside0.mk (below_step (hb_) hb); clear HB HS; have HS := n0_; have HG := n2_; have HB := n1_; clear n0_ n1_ n2_ hb ho0; obtain ⟨Ag, cg, eg⟩ := Kd.S_slice HG.out; subst eg)
    | ((with_reducible refine gate_callee (f := 8) rfl ?_); refine goesL_ (some 23) rfl rfl Try.func8 (by kernel_rfl) rfl #[.slice Ag tg1.length cg, .slice As ts1.length cs] rfl ga_ ?_; (with_reducible refine (laws_eqIntSS.calls k _ _ tg1 _ _ ts1 true _ ?side1 ?side2 ?side3 ?side4 A3.out).mono ?_); (case side1 => repeat (first | exact (Kd.S_reads' HG.out).2.2 | (with_reducible refine Kd.C_alloc ?_ _) | (with_reducible refine Kd.C_drewN ?_ _) | (with_reducible refine Kd.C_drew ?_))); (case side2 => exact (Kd.S_reads' HG.out).2.1); (case side3 => repeat (first | exact (Kd.S_reads' HS.out).2.2 | (with_reducible refine Kd.C_alloc ?_ _) | (with_reducible refine Kd.C_drewN ?_ _) | (with_reducible refine Kd.C_drew ?_))); (case side4 => exact (Kd.S_reads' HS.out).2.1); rintro e w' ⟨rfl, ⟨nd, rfl⟩⟩; refine ⟨_, rfl, ?_⟩)
    | ((with_reducible refine gate_callee (f := 9) rfl ?_); refine goesL_ (some 32) rfl rfl Try.func9 (by kernel_rfl) rfl #[.slice Ag tg1.length cg, .int .i64 1] rfl ga_ ?_; (refine (laws_markIntSS.calls k (fun k_ => N_ ≤ k_) (.slice Ag tg1.length cg) tg1 1 tm1 tm2 w _ ?side1 ?side2 A4.out).mono ?_); (case side1 => exact hb_); (case side2 => (with_reducible repeat (first | apply Kd.S_alloc | apply Kd.S_drewN | apply Kd.S_drew)); exact HG.out); rintro e w9 ⟨rfl, ho0, hb, hkp⟩; refine ⟨_, rfl, ?_⟩; have n0_ := Aside0.mk (Kd.S_step (by (with_reducible repeat (first | apply Kd.S_alloc | apply Kd.S_drewN | apply Kd.S_drew)); exact HS.out) (fun k_ ho_ hk_ => hkp.2 k_ hk_ (Nat.not_le_of_lt ho_))); have n2_ := Aside0.mk ho0; have n1_ := Aside0.mk hb; clear HB HS HG; have HS := n0_; have HG := n2_; have HB := n1_; clear n0_ n1_ n2_ hb ho0 hkp)
    | ((with_reducible refine gate_callee (f := 10) rfl ?_); refine goesL_ (some 35) rfl rfl Try.func10 (by kernel_rfl) rfl #[.slice Ag tg1.length cg, .int .i64 1] rfl ga_ ?_; (with_reducible refine (heldSS_n k _ _ _ tm2 1 q1 _ ?side0 ?side1 ?side2 A5.out).mono ?_); (case side0 => exact (Kd.S_reads' HG.out).1); (case side1 => repeat (first | exact (Kd.S_reads' HG.out).2.2 | (with_reducible refine Kd.C_alloc ?_ _) | (with_reducible refine Kd.C_drewN ?_ _) | (with_reducible refine Kd.C_drew ?_))); (case side2 => exact (Kd.S_reads' HG.out).2.1); rintro e w' ⟨rfl, ⟨nd, rfl⟩⟩; refine ⟨_, rfl, ?_⟩)
    | ((with_reducible refine gate_callee (f := 7) rfl ?_); refine goesL_ (some 43) rfl rfl Try.func7 (by kernel_rfl) rfl #[.int .i64 a0] rfl ga_ ?_; (with_reducible refine (impl_AllAround.calls k a0 th1 _ _ A6.out).mono ?_); rintro e w43 ⟨v43, rfl, ho0, hb⟩; refine ⟨_, rfl, ?_⟩; have n0_ := Aside0.mk (Kd.S_below (by (with_reducible repeat (first | apply Kd.S_alloc | apply Kd.S_drewN | apply Kd.S_drew)); exact HS.out) hb); have n3_ := Aside0.mk (Kd.S_below (by (with_reducible repeat (first | apply Kd.S_alloc | apply Kd.S_drewN | apply Kd.S_drew)); exact HG.out) hb); have n2_ := Aside0.mk ho0; have n1_ := Aside0.mk (below_step (hb_) hb); clear HB HS HG; have HS := n0_; have HG := n3_; have HH := n2_; have HB := n1_; clear n0_ n1_ n2_ n3_ hb ho0; obtain ⟨Ah, ch, eh⟩ := Kd.S_slice HH.out; subst eh)
    | ((with_reducible refine gate_callee (f := 8) rfl ?_); refine goesL_ (some 48) rfl rfl Try.func8 (by kernel_rfl) rfl #[.slice Ah th1.length ch, .slice As ts1.length cs] rfl ga_ ?_; (with_reducible refine (laws_eqIntSS.calls k _ _ th1 _ _ ts1 true _ ?side1 ?side2 ?side3 ?side4 A7.out).mono ?_); (case side1 => repeat (first | exact (Kd.S_reads' HH.out).2.2 | (with_reducible refine Kd.C_alloc ?_ _) | (with_reducible refine Kd.C_drewN ?_ _) | (with_reducible refine Kd.C_drew ?_))); (case side2 => exact (Kd.S_reads' HH.out).2.1); (case side3 => repeat (first | exact (Kd.S_reads' HS.out).2.2 | (with_reducible refine Kd.C_alloc ?_ _) | (with_reducible refine Kd.C_drewN ?_ _) | (with_reducible refine Kd.C_drew ?_))); (case side4 => exact (Kd.S_reads' HS.out).2.1); rintro e w' ⟨rfl, ⟨nd2, rfl⟩⟩; refine ⟨_, rfl, ?_⟩)
    | ((with_reducible refine gate_callee (f := 10) rfl ?_); refine goesL_ (some 57) rfl rfl Try.func10 (by kernel_rfl) rfl #[.slice Ag tg1.length cg, .int .i64 1] rfl ga_ ?_; (with_reducible refine (heldSS_n k _ _ _ tm2 1 q2 _ ?side0 ?side1 ?side2 A8.out).mono ?_); (case side0 => exact (Kd.S_reads' HG.out).1); (case side1 => repeat (first | exact (Kd.S_reads' HG.out).2.2 | (with_reducible refine Kd.C_alloc ?_ _) | (with_reducible refine Kd.C_drewN ?_ _) | (with_reducible refine Kd.C_drew ?_))); (case side2 => exact (Kd.S_reads' HG.out).2.1); rintro e w' ⟨rfl, ⟨nd3, rfl⟩⟩; refine ⟨_, rfl, ?_⟩))
  go_ret
  exact ⟨by first | rfl | (simp [errW_none, errW_some] <;> rfl) | (simp [*, errW_none, errW_some] <;> rfl), hb_⟩

end Go.Proofs.Ytogafcjfaicpgaa.MB
