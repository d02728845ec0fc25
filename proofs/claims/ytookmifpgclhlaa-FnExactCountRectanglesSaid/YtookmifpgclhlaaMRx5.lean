-- Written by a program of this session (wip/print/myprint.py) over the kit's printer; Lean checks it.
import Derived.Test.YtookmifpgclhlaaMRx0
import Derived.Test.YtookmifpgclhlaaMRx4
namespace Go.Proofs.Ytookmifpgclhlaa.MR
open Go.RowKit Go.Proofs.YtookmifpgclhlaaW.PrintWords Go.Proofs.YtookmifpgclhlaaW.PrintLast Go.Proofs.YtookmifpgclhlaaW.PrintMore Go.Proofs.YtookmifpgclhlaaV
attribute [local go_sem] max2_int min2_int max_two min_two max_three min_three max_four min_four   -- for this text's walks alone
set_option linter.unusedVariables false
set_option linter.unusedSimpArgs false

/-! ### impl_CountRectangles: function 27 -/
/- A contract by hand: a map of the call's own. -/
/-- What the entries of a map come to, two of each chosen. -/
def impl_CountRectangles.sumV (k : Nat) : List (K3 × Int) → Option Int
  | [] => some 0
  | p :: r => (impl_choose.f k p.2 2).bind fun a => (impl_CountRectangles.sumV k r).bind fun b => some (wrap64 (a + b))
theorem impl_CountRectangles.sumV_mono (k : Nat) (cs : List (K3 × Int)) : LeO (impl_CountRectangles.sumV k cs) (impl_CountRectangles.sumV (k + 1) cs) := by
  induction cs with
  | nil => exact LeO.refl _
  | cons p r ih => exact LeO.bind (impl_choose.mono _ _ _) (fun _ => LeO.bind ih (fun _ => LeO.refl _))
theorem impl_CountRectangles.sumV_eq {k : Nat} {cs : List (K3 × Int)} : ∀ {s : Int}, impl_CountRectangles.sumV k cs = some s → (∀ p ∈ cs, impl_choose.f k p.2 2 = some ((impl_choose.f k p.2 2).getD 0)) ∧ s = wrap64 (sumC (fun c => (impl_choose.f k c 2).getD 0) cs) := by
  induction cs with
  | nil =>
    intro s h
    refine ⟨fun p hp => absurd hp (by simp), ?_⟩
    obtain rfl := Option.some.inj h
    simp only [sumC, List.map_nil, List.sum_nil]
    unfold wrap64
    omega
  | cons p r ih =>
    intro s h
    rw [impl_CountRectangles.sumV] at h
    obtain ⟨a, ha, h⟩ := Option.bind_eq_some_iff.mp h
    obtain ⟨b, hb, h⟩ := Option.bind_eq_some_iff.mp h
    obtain rfl := Option.some.inj h
    obtain ⟨h1, h2⟩ := ih hb
    refine ⟨fun q hq => ?_, ?_⟩
    · rcases List.mem_cons.1 hq with rfl | hq
      · rw [ha]
        rfl
      · exact h1 q hq
    · have : sumC (fun c => (impl_choose.f k c 2).getD 0) (p :: r) = a + sumC (fun c => (impl_choose.f k c 2).getD 0) r := by
        simp [sumC, ha]
      rw [this, h2, Int.add_comm a, w64_add, Int.add_comm]
mutual
def impl_CountRectangles.l0 : Nat → List (S30) → List (S30) → Int → Int → List (K3 × Int) → Option (Int × Bool)
  | 0, _, _, _, _, _ => none
  | k + 1, x7, x23, x24, x25, x145000 => if x25 < x24 then (if 0 ≤ x25 then (if x25 < (x23.length : Int) then (if x25 ≤ (x7.length : Int) then ((some (x7.take (x25 : Int).toNat : List (S30))).bind fun y150 => (impl_CountRectangles.l1 k x7 x23 x24 x25 y150 (y150.length : Int) 0 x145000 ((rd_T30 x23 x25).f0) ((rd_T30 x23 x25).f1))) else (none)) else (none)) else (none)) else ((impl_CountRectangles.sumV k x145000).bind fun s => some (s, true))
def impl_CountRectangles.l1 : Nat → List (S30) → List (S30) → Int → Int → List (S30) → Int → Int → List (K3 × Int) → Int → Int → Option (Int × Bool)
  | 0, _, _, _, _, _, _, _, _, _, _ => none
  | k + 1, x7, x23, x24, x25, x32, x33, x34, x145000, x150000, x150001 => if x34 < x33 then (if 0 ≤ x34 then (if x34 < (x32.length : Int) then ((impl_Peg_plus.f x150000 x150001 ((rd_T30 x32 x34).f0) ((rd_T30 x32 x34).f1)).bind fun bt156 => ((impl_Peg_less.f x150000 x150001 ((rd_T30 x32 x34).f0) ((rd_T30 x32 x34).f1)).bind fun bt158 => ((impl_Peg_square.f bt158.1 bt158.2).bind fun t160 => (impl_CountRectangles.l1 k x7 x23 x24 x25 x32 x33 (wrap64 (x34 + 1)) (putC x145000 (bt156.1, bt156.2, t160)) x150000 x150001)))) else (none)) else (none)) else (impl_CountRectangles.l0 k x7 x23 x24 (wrap64 (x25 + 1)) x145000)
end
def impl_CountRectangles.f (k : Nat) (a0 : Int) (a1 : Int) : Option (Int × Bool) := (impl_isBoard.f a0 a1 6).bind fun t143 => (if t143 = true then ((impl_board.f k a0 a1).bind fun t145 => (impl_CountRectangles.l0 k t145 t145 (t145.length : Int) 0 [])) else (some (0, false)))
theorem impl_CountRectangles.mono_l : ∀ k, (∀ y0 y1 y2 y3 y4, LeO (impl_CountRectangles.l0 k y0 y1 y2 y3 y4) (impl_CountRectangles.l0 (k + 1) y0 y1 y2 y3 y4)) ∧ (∀ y0 y1 y2 y3 y4 y5 y6 y7 y8 y9, LeO (impl_CountRectangles.l1 k y0 y1 y2 y3 y4 y5 y6 y7 y8 y9) (impl_CountRectangles.l1 (k + 1) y0 y1 y2 y3 y4 y5 y6 y7 y8 y9))
  | 0 => ⟨fun _ _ _ _ _ r h => by simp [impl_CountRectangles.l0] at h, fun _ _ _ _ _ _ _ _ _ _ r h => by simp [impl_CountRectangles.l1] at h⟩
  | k + 1 => by
    obtain ⟨ih0, ih1⟩ := impl_CountRectangles.mono_l k
    refine ⟨?_, ?_⟩
    · intro y0 y1 y2 y3 y4
      unfold impl_CountRectangles.l0
      repeat' first
      | (with_reducible exact ih0 _ _ _ _ _)
      | (with_reducible exact ih1 _ _ _ _ _ _ _ _ _ _)
      | (with_reducible exact impl_board.mono _ _ _)
      | (with_reducible exact impl_CountRectangles.sumV_mono _ _)
      | (with_reducible exact LeO.refl _)
      | (with_reducible exact LeO.none _)
      | (with_reducible refine LeO.ite ?_ ?_)
      | (with_reducible refine LeO.bind ?_ (fun _ => ?_))
      | exact ih0 _ _ _ _ _
      | exact ih1 _ _ _ _ _ _ _ _ _ _
      | exact impl_board.mono _ _ _
      | exact LeO.none _
      | refine LeO.ite ?_ ?_
      | refine LeO.bind ?_ (fun _ => ?_)
    · intro y0 y1 y2 y3 y4 y5 y6 y7 y8 y9
      unfold impl_CountRectangles.l1
      repeat' first
      | (with_reducible exact ih0 _ _ _ _ _)
      | (with_reducible exact ih1 _ _ _ _ _ _ _ _ _ _)
      | (with_reducible exact impl_board.mono _ _ _)
      | (with_reducible exact impl_CountRectangles.sumV_mono _ _)
      | (with_reducible exact LeO.refl _)
      | (with_reducible exact LeO.none _)
      | (with_reducible refine LeO.ite ?_ ?_)
      | (with_reducible refine LeO.bind ?_ (fun _ => ?_))
      | exact ih0 _ _ _ _ _
      | exact ih1 _ _ _ _ _ _ _ _ _ _
      | exact impl_board.mono _ _ _
      | exact LeO.none _
      | refine LeO.ite ?_ ?_
      | refine LeO.bind ?_ (fun _ => ?_)
theorem impl_CountRectangles.mono : ∀ a0 a1 k, LeO (impl_CountRectangles.f k a0 a1) (impl_CountRectangles.f (k + 1) a0 a1) := by
  intro a0 a1 k
  obtain ⟨ih0, ih1⟩ := impl_CountRectangles.mono_l k
  unfold impl_CountRectangles.f
  repeat' first
      | (with_reducible exact ih0 _ _ _ _ _)
      | (with_reducible exact ih1 _ _ _ _ _ _ _ _ _ _)
      | (with_reducible exact impl_board.mono _ _ _)
      | (with_reducible exact impl_CountRectangles.sumV_mono _ _)
      | (with_reducible exact LeO.refl _)
      | (with_reducible exact LeO.none _)
      | (with_reducible refine LeO.ite ?_ ?_)
      | (with_reducible refine LeO.bind ?_ (fun _ => ?_))
      | exact ih0 _ _ _ _ _
      | exact ih1 _ _ _ _ _ _ _ _ _ _
      | exact impl_board.mono _ _ _
      | exact LeO.none _
      | refine LeO.ite ?_ ?_
      | refine LeO.bind ?_ (fun _ => ?_)
def impl_CountRectangles.T11 : Bool × List (List Nat × List Nat) := (true, [([], []), ([], []), ([], []), ([1, 2], [1, 2]), ([], []), ([], []), ([4, 5, 3], [4, 5]), ([6, 6], [6]), ([3, 7], [3, 7]), ([0, 8], [0, 8]), ([9], [9]), ([0, 8, 7, 0, 1, 2, 3, 4, 5, 6, 7, 8], [0, 8]), ([11], [11]), ([0, 12, 10, 11, 0, 1, 2, 3, 4, 5, 6, 7, 8, 9, 10, 11, 12], [0, 10, 12])])
def impl_CountRectangles.B11 : List Nat := [0, 0, 0, 6, 0, 0, 62, 126, 254, 511, 1023, 511, 2559, 8191]
theorem impl_CountRectangles.tab11 : rtab .any (opsOf Try.f27 11) = impl_CountRectangles.T11 := by kernel_rfl
theorem impl_CountRectangles.bits11 : waitsOk impl_CountRectangles.T11.2 impl_CountRectangles.B11 = true := by kernel_rfl
theorem impl_CountRectangles.keyLaw : Go.WideMaps.KeyLaw Try.prog 53 := deep_law_laid (P := Try.prog) (by kernel_rfl) (m := 3) (by omega) (of_decide_eq_true (by kernel_rfl)) (by kernel_rfl) (by rw [Try.underlying53])
theorem impl_CountRectangles.keyOk {x : K3} (h1 : (Lit.int .i64 x.1).wf = true) (h2 : (Lit.int .i64 x.2.1).wf = true) (h3 : (Lit.int .i64 x.2.2).wf = true) : keyK Try.prog 53 x :=
  keyK_of (P := Try.prog) (k := 53) (k2 := 30) (ti := 3) (n := 76) (by kernel_rfl) (by kernel_rfl) (by kernel_rfl) (by kernel_rfl) (by kernel_rfl) Try.underlying53 Try.underlying30 Try.underlying3 (by rfl) (by rfl) (by simp) (by simp) h1 h2 h3
set_option maxHeartbeats 8000000 in
set_option maxRecDepth 100000 in
theorem impl_CountRectangles.calls (k : Nat) (a0 : Int) (a1 : Int) (r1 : Int) (r2 : Bool) (w : World) (h : impl_CountRectangles.f k a0 a1 = some (r1, r2)) :
    Calls Try.prog 27 #[.int .i64 a0, .int .i64 a1] w fun e w' => e = .returned (.tuple #[.int .i64 r1, .bool r2]) ∧ Below w.heap.size w w' := by
  have hu30 := Try.underlying30
  have HB := Aside0.mk (Below.refl w.heap.size w)
  have H : ((impl_isBoard.f a0 a1 6).bind fun t143 => (if t143 = true then ((impl_board.f k a0 a1).bind fun t145 => (impl_CountRectangles.l0 k t145 t145 (t145.length : Int) 0 [])) else (some (0, false)))) = some (r1, r2) := h
  clear h
  replace H := Option.bind_eq_some_iff.mp H
  obtain ⟨t143, A30, H⟩ := H
  replace H : (if t143 = true then ((impl_board.f k a0 a1).bind fun t145 => (impl_CountRectangles.l0 k t145 t145 (t145.length : Int) 0 [])) else (some (0, false))) = some (r1, r2) := H
  have A3 := Aside0.mk A30
  clear A30
  by_cases c4 : t143 = true
  · subst c4
    have H1 : ((impl_board.f k a0 a1).bind fun t145 => (impl_CountRectangles.l0 k t145 t145 (t145.length : Int) 0 [])) = some (r1, r2) := by rw [if_pos rfl] at H; exact H
    clear H
    have H := H1
    clear H1
    replace H := Option.bind_eq_some_iff.mp H
    obtain ⟨t145, A50, H⟩ := H
    replace H : (impl_CountRectangles.l0 k t145 t145 (t145.length : Int) 0 []) = some (r1, r2) := H
    have A5 := Aside0.mk A50
    clear A50
    have H' := Aside0.mk H
    clear H
    go_enter Try.func27, Try.ntmps27
    go_wp2_with (first | ((with_reducible refine gate_callee (f := 45) rfl ?_); refine goesL_ (some 17) rfl rfl Try.func45 (by kernel_rfl) rfl #[.int .i64 a0, .int .i64 a1, .int .i64 6] rfl ga_ ?_; (with_reducible refine (impl_isBoard.calls a0 a1 6 true _ A3.out).mono ?_); rintro e w' ⟨rfl, ⟨nd, rfl⟩⟩; refine ⟨_, rfl, ?_⟩) | ((with_reducible refine gate_dst (N := 19) rfl ?_); refine make_event (t := 49) ?hg (N := 19) ?hd ?ho ?_; (case hd => rfl); (case hg => rfl); (case ho => rfl); intro gb144 hg w6 hbox hb; have n0_ := Aside0.mk (below_step (hb_) hb); have n1_ := Aside0.mk (hbox); have n2_ := Aside0.mk ((by rw [hg]; exact (below_size (hb_)) : w.heap.size ≤ gb144)); have n3_ := Aside0.mk ((by rw [hg]; exact (below_size (hb_)) : w.heap.size ≤ gb144)); clear HB; have HB := n0_; have BK144 := n1_; have GW144 := n2_; have GE144 := n3_; clear n0_ n1_ n2_ n3_; clear hb hbox hg) | ((with_reducible refine gate_callee (f := 53) rfl ?_); refine goesL_ (some 22) rfl rfl Try.func53 (by kernel_rfl) rfl #[.int .i64 a0, .int .i64 a1] rfl ga_ ?_; (with_reducible refine (impl_board.calls k a0 a1 t145 _ A5.out).mono ?_); rintro e w8 ⟨v146, rfl, ho0, hb⟩; refine ⟨_, rfl, ?_⟩; have n0_ := Aside0.mk (Kd.R_lower ho0 (below_size (hbg_))); have n1_ := bb_ BK144 hb; have n2_ := Aside0.mk (below_step (hbg_) hb); clear BK144; clear HB; have HO147 := n0_; have BK144 := n1_; have HB := n2_; clear n0_ n1_ n2_; (try clear hb); (try clear hb2); (try clear hk); (try clear hi); (try clear ho0); obtain ⟨Ao9, co9, eo9⟩ := Kd.R_slice HO147.out; subst eo9))
    go_loopg [25] k (fun kq v25 w' => ∃ (x25_1 : Int) (cm_1 : List (K3 × Int)), v25 = .int .i64 x25_1 ∧ Aside0 (impl_CountRectangles.l0 kq t145 t145 (t145.length : Int) x25_1 cm_1 = some (r1, r2)) ∧ Aside0 (kq ≤ k) ∧ Aside0 (Kd.R k30 30 w' w.heap.size (fun _ => True) (.slice Ao9 t145.length co9) t145) ∧ Aside0 (Kd.R k30 30 w' w.heap.size (fun _ => True) (.slice Ao9 t145.length co9) t145) ∧ Aside0 (w'.heap[gb144]? = some (mapO cm_1)) ∧ Aside0 (GoodC Try.prog 53 cm_1) ∧ Aside0 (Below w.heap.size w w'))
    case atStart => exact ⟨(0), [], (by first | rfl | (simp; done) | (simp [*]; done)), H', ⟨Nat.le_refl _⟩, ⟨rk_ HO147.out⟩, ⟨rk_ HO147.out⟩, ⟨bk_ BK144.out⟩, ⟨⟨List.nodup_nil, fun p hp => absurd hp (by simp)⟩⟩, ⟨hbg_⟩⟩
    case round =>
      clear H'
      try clear c2
      try clear p2
      try clear c4
      try clear c5
      try clear hcz7_0
      try clear hfz7_0
      obtain ⟨x25_1, cm_1, rfl, HA, HK1, HO_7, HO_23, BK144, GC_, HB⟩ := hrel
      cases gk with
      | zero => exact absurd HA.out (by simp [impl_CountRectangles.l0])
      | succ k1 =>
        have H := HA.out
        clear HA
        simp only [impl_CountRectangles.l0] at H
        by_cases c10 : x25_1 < (t145.length : Int)
        · rw [if_pos c10] at H
          have c10b0 : decide (x25_1 < (t145.length : Int)) = true := decide_eq_true c10
          clear c10
          by_cases c11 : 0 ≤ x25_1
          · rw [if_pos c11] at H
            have c11b0 : decide (0 ≤ x25_1) = true := decide_eq_true c11
            clear c11
            by_cases c12 : x25_1 < (t145.length : Int)
            · rw [if_pos c12] at H
              have c12b0 : decide (x25_1 < (t145.length : Int)) = true := decide_eq_true c12
              clear c12
              have c13b0 := eq_true (odt_ : 0 ≤ x25_1)
              by_cases c14 : x25_1 ≤ (t145.length : Int)
              · rw [if_pos c14] at H
                have c14b0 := eq_true c14
                have c14b1 : decide (x25_1 ≤ (t145.length : Int)) = true := decide_eq_true c14
                clear c14
                obtain ⟨y150, hy150⟩ : ∃ y_ : List (S30), y_ = (t145.take (x25_1 : Int).toNat) := ⟨_, rfl⟩
                replace H : (impl_CountRectangles.l1 k1 t145 t145 (t145.length : Int) x25_1 y150 (y150.length : Int) 0 cm_1 ((rd_T30 t145 x25_1).f0) ((rd_T30 t145 x25_1).f1)) = some (r1, r2) := by first | (rw [hy150]; with_reducible exact H) | (have H2_ := (Option.bind_some _ _).symm.trans H; rw [hy150]; with_reducible exact H2_) | (have H2_ := (Option.bind_some _ _).symm.trans H; with_reducible exact H2_) | with_reducible exact H | (rw [hy150]; exact H) | exact H
                have Ny150 := Aside0.mk hy150
                clear hy150
                have H' := Aside0.mk H
                clear H
                have p148 : 0 ≤ (x25_1 : Int) := odt_
                have q148 : x25_1 < (t145.length : Int) := odt_
                obtain ⟨ad148, e148, hx148_0, hx148_1⟩ := at_T30 (Kd.R_reads' HO_23.out).2.2 x25_1 p148 q148
                cases e148
                replace p148 := eq_true p148
                replace q148 := eq_true q148
                go_wp2_with (first | ((with_reducible refine gate_dst (N := 9) rfl ?_); refine box_event ?hg (N := 9) ?hd (cs := #[.int .i64 0, .int .i64 0]) (t := 30) ?hr ?_; (case hd => rfl); (case hg => rfl); (case hr => first | (go_simp; done) | (go_simp; rfl)); intro gb149 hg w15 hbox hb; have n0_ := Aside0.mk (Kd.R_below (Kd.R_elderB (rk_ HO_7.out) gb149 (Nat.le_of_eq hg.symm)) hb); have n1_ := Aside0.mk (Kd.R_below (Kd.R_elderB (rk_ HO_23.out) gb149 (Nat.le_of_eq hg.symm)) hb); have n2_ := bb_ BK144 hb; have n3_ := Aside0.mk (below_step (hbg_) hb); have n4_ := Aside0.mk (hbox); have n5_ := Aside0.mk ((by rw [hg]; exact (below_size (hbg_)) : w.heap.size ≤ gb149)); have n6_ := Aside0.mk ((by rw [hg]; exact (below_size (hbg_)) : w.heap.size ≤ gb149)); have n7_ := Aside0.mk ((by rw [hg]; exact Nat.ne_of_lt (blk_lt (bk_ BK144.out)) : gb144 ≠ gb149)); have n8_ := Aside0.mk ((by rw [hg]; exact Nat.ne_of_gt (blk_lt (bk_ BK144.out)) : gb149 ≠ gb144)); clear HO_7; clear HO_23; clear BK144; clear HB; have HO_7 := n0_; have HO_23 := n1_; have BK144 := n2_; have HB := n3_; have BK149 := n4_; have GW149 := n5_; have GE149 := n6_; have NB144_149 := n7_; have NB149_144 := n8_; clear n0_ n1_ n2_ n3_ n4_ n5_ n6_ n7_ n8_; clear hb hbox hg; have hnb16 := NB149_144.out; have hnc16 := NB144_149.out; have hcz17_0 : w15.cell? ⟨gb149, 0, none⟩ = some (.int .i64 0) := (blk_cell BK149.out 0).trans rfl; have hcz17_1 : w15.cell? ⟨gb149, 1, none⟩ = some (.int .i64 0) := (blk_cell BK149.out 1).trans rfl; have hfz17_0 := blk_frozen BK149.out 0; have hfz17_1 := blk_frozen BK149.out 1) | ((with_reducible refine gate_store (t := 30) (p := 9) rfl ?_); refine store_event (t := 30) (p := 9) (v := ?vo_w18) (w1 := ((w15.setCell ⟨gb149, 0, none⟩ (.int .i64 ((rd_T30 t145 x25_1).f0))).setCell ⟨gb149, 1, none⟩ (.int .i64 ((rd_T30 t145 x25_1).f1)))) ?hg ?ho ?hn ?hr ?_; (case ho => rfl); (case hg => rfl); (case hn => rfl); (case hr => first | (go_simp; done) | (go_simp; rfl)); intro w18 hw; have n0_ : Aside0 (Kd.R k30 30 w18 w.heap.size (fun k_ => k_ ≠ gb149) (.slice (some ad148) t145.length co9) t145) := ⟨(by rw [hw]; exact (by (with_reducible repeat (first | apply Kd.R_alloc | apply Kd.R_drewN | apply Kd.R_drew)); exact Kd.R_mono (Kd.R_far (p := ⟨gb149, 1, none⟩) (Kd.R_far (p := ⟨gb149, 0, none⟩) (Kd.R_mono HO_7.out (fun k_ hk => (⟨hk, hk.2⟩ : _ ∧ k_ ≠ gb149))) (fun _ hk => hk.2) (.int .i64 ((rd_T30 t145 x25_1).f0))) (fun _ hk => hk.2) (.int .i64 ((rd_T30 t145 x25_1).f1))) (fun _ hk => hk.1.2)))⟩; have n1_ : Aside0 (Kd.R k30 30 w18 w.heap.size (fun k_ => k_ ≠ gb149) (.slice (some ad148) t145.length co9) t145) := ⟨(by rw [hw]; exact (by (with_reducible repeat (first | apply Kd.R_alloc | apply Kd.R_drewN | apply Kd.R_drew)); exact Kd.R_mono (Kd.R_far (p := ⟨gb149, 1, none⟩) (Kd.R_far (p := ⟨gb149, 0, none⟩) (Kd.R_mono HO_23.out (fun k_ hk => (⟨hk, hk.2⟩ : _ ∧ k_ ≠ gb149))) (fun _ hk => hk.2) (.int .i64 ((rd_T30 t145 x25_1).f0))) (fun _ hk => hk.2) (.int .i64 ((rd_T30 t145 x25_1).f1))) (fun _ hk => hk.1.2)))⟩; have n2_ : Aside0 (w18.heap[gb144]? = some (mapO cm_1)) := ⟨(by rw [hw]; exact (mf2_ BK144 NB144_149))⟩; have n3_ : Aside0 (w18.heap[gb149]? = some (.cells #[.int .i64 ((rd_T30 t145 x25_1).f0), .int .i64 ((rd_T30 t145 x25_1).f1)] 30 (0, 0))) := ⟨(by rw [hw]; exact (by (with_reducible repeat (first | refine blk_drewN ?_ _ | refine blk_drew ?_ | refine blk_alloc ?_ _)); refine blk_put (cs := #[.int .i64 ((rd_T30 t145 x25_1).f0), .int .i64 0]) ?_ 1 _ rfl; (with_reducible repeat (first | refine blk_drewN ?_ _ | refine blk_drew ?_ | refine blk_alloc ?_ _)); refine blk_put (cs := #[.int .i64 0, .int .i64 0]) ?_ 0 _ rfl; (with_reducible repeat (first | refine blk_drewN ?_ _ | refine blk_drew ?_ | refine blk_alloc ?_ _)); exact BK149.out))⟩; have n4_ : Aside0 (Below w.heap.size w w18) := ⟨(by rw [hw]; exact (hbg_))⟩; clear hw; clear HO_7; clear HO_23; clear BK144; clear BK149; clear HB; have HO_7 := n0_; have HO_23 := n1_; have BK144 := n2_; have BK149 := n3_; have HB := n4_; clear n0_ n1_ n2_ n3_ n4_; have q19 : (x25_1 : Int) ≤ ((t145.length : Int) : Int) := odt_; obtain ⟨i019, hi019, _, hsz19, _⟩ := info_parts info30; have hroom19 : t145.length ≤ co9 := (Kd.R_reads' HO_7.out).2.1; have hC19 : Kd.C k30 _ (some ad148) t145.length t145 := (Kd.R_reads' HO_7.out).2.2; have hcut19 := cut_to (P := Try.prog) 33 30 .i64 Try.underlying33 hi019 (some ad148) t145.length co9 x25_1 (odt_) q19 hroom19; have hr19 := Kd.C_take (m := (x25_1 : Int).toNat) hC19 (by omega); have hy19 : y150.length = (x25_1 : Int).toNat := (by rw [Ny150.out, List.length_take]; omega); rw [← Ny150.out] at hr19; rw [← hy19] at hcut19; have HR153 := Aside0.mk hr19; have HC153 := Aside0.mk (show y150.length ≤ co9 from by omega); clear hr19 hC19 hroom19 hi019 hsz19; have KY19 := Aside0.mk hy19; clear hy19; have KL19 := Aside0.mk (show (x25_1 : Int).toNat ≤ t145.length from by omega); replace q19 := eq_true q19))
                go_loopg [34] k1 (fun kq v34 w' => ∃ (x34_2 : Int) (cm_2 : List (K3 × Int)), v34 = .int .i64 x34_2 ∧ Aside0 (impl_CountRectangles.l1 kq t145 t145 (t145.length : Int) x25_1 y150 (y150.length : Int) x34_2 cm_2 ((rd_T30 t145 x25_1).f0) ((rd_T30 t145 x25_1).f1) = some (r1, r2)) ∧ Aside0 (kq ≤ k1) ∧ Aside0 (Kd.R k30 30 w' w.heap.size (fun k_ => k_ ≠ gb149) (.slice (some ad148) t145.length co9) t145) ∧ Aside0 (Kd.R k30 30 w' w.heap.size (fun k_ => k_ ≠ gb149) (.slice (some ad148) t145.length co9) t145) ∧ Aside0 (w'.heap[gb144]? = some (mapO cm_2)) ∧ Aside0 (GoodC Try.prog 53 cm_2) ∧ Aside0 (w'.heap[gb149]? = some (.cells #[.int .i64 ((rd_T30 t145 x25_1).f0), .int .i64 ((rd_T30 t145 x25_1).f1)] 30 (0, 0))) ∧ Aside0 (Kd.C k30 w' (some ad148) y150.length y150) ∧ Aside0 (Below w.heap.size w w'))
                case atStart => exact ⟨(0), cm_1, (by first | rfl | (simp; done) | (simp [*]; done)), H', ⟨Nat.le_refl _⟩, ⟨rk_ HO_7.out⟩, ⟨rk_ HO_23.out⟩, ⟨bk_ BK144.out⟩, ⟨GC_.out⟩, ⟨bk_ BK149.out⟩, ⟨by repeat (first | (with_reducible exact HR153.out) | (with_reducible refine Kd.C_alloc ?_ _) | (with_reducible refine Kd.C_drewN ?_ _) | (with_reducible refine Kd.C_drew ?_) | exact HR153.out)⟩, ⟨hbg_⟩⟩
                case round =>
                  clear H'
                  try clear c1
                  try clear p1
                  try clear q1
                  try clear hx1
                  try clear c2
                  try clear p2
                  try clear c4
                  try clear c5
                  try clear c10
                  try clear c10b0
                  try clear c11
                  try clear c11b0
                  try clear c12
                  try clear c12b0
                  try clear c13
                  try clear c13b0
                  try clear c14
                  try clear c14b0
                  try clear c14b1
                  try clear p14
                  try clear q14
                  try clear hx14
                  try clear c16
                  try clear q19
                  try clear hcz17_0
                  try clear hcz17_1
                  try clear hcz7_0
                  try clear hfz17_0
                  try clear hfz17_1
                  try clear hfz7_0
                  try clear hx148_0
                  try clear hx148_1
                  try clear p148
                  try clear p2
                  try clear q148
                  try clear q19
                  obtain ⟨x34_2, cm_2, rfl, HA, HK2, HO_7, HO_23, BK144, GC_, BK149, HR153, HB⟩ := hrel
                  cases gk with
                  | zero => exact absurd HA.out (by simp [impl_CountRectangles.l1])
                  | succ k2 =>
                    have H := HA.out
                    clear HA
                    simp only [impl_CountRectangles.l1] at H
                    by_cases c20 : x34_2 < (y150.length : Int)
                    · rw [if_pos c20] at H
                      have c20b0 : decide (x34_2 < (y150.length : Int)) = true := decide_eq_true c20
                      clear c20
                      by_cases c21 : 0 ≤ x34_2
                      · rw [if_pos c21] at H
                        have c21b0 : decide (0 ≤ x34_2) = true := decide_eq_true c21
                        clear c21
                        by_cases c22 : x34_2 < (y150.length : Int)
                        · rw [if_pos c22] at H
                          have c22b0 : decide (x34_2 < (y150.length : Int)) = true := decide_eq_true c22
                          clear c22
                          replace H := Option.bind_eq_some_iff.mp H
                          obtain ⟨⟨t156, t157⟩, A230, H⟩ := H
                          replace H : ((impl_Peg_less.f ((rd_T30 t145 x25_1).f0) ((rd_T30 t145 x25_1).f1) ((rd_T30 y150 x34_2).f0) ((rd_T30 y150 x34_2).f1)).bind fun bt158 => ((impl_Peg_square.f bt158.1 bt158.2).bind fun t160 => (impl_CountRectangles.l1 k2 t145 t145 (t145.length : Int) x25_1 y150 (y150.length : Int) (wrap64 (x34_2 + 1)) (putC cm_2 (t156, t157, t160)) ((rd_T30 t145 x25_1).f0) ((rd_T30 t145 x25_1).f1)))) = some (r1, r2) := H
                          have A23 := Aside0.mk A230
                          clear A230
                          replace H := Option.bind_eq_some_iff.mp H
                          obtain ⟨⟨t158, t159⟩, A240, H⟩ := H
                          replace H : ((impl_Peg_square.f t158 t159).bind fun t160 => (impl_CountRectangles.l1 k2 t145 t145 (t145.length : Int) x25_1 y150 (y150.length : Int) (wrap64 (x34_2 + 1)) (putC cm_2 (t156, t157, t160)) ((rd_T30 t145 x25_1).f0) ((rd_T30 t145 x25_1).f1))) = some (r1, r2) := H
                          have A24 := Aside0.mk A240
                          clear A240
                          replace H := Option.bind_eq_some_iff.mp H
                          obtain ⟨t160, A250, H⟩ := H
                          replace H : (impl_CountRectangles.l1 k2 t145 t145 (t145.length : Int) x25_1 y150 (y150.length : Int) (wrap64 (x34_2 + 1)) (putC cm_2 (t156, t157, t160)) ((rd_T30 t145 x25_1).f0) ((rd_T30 t145 x25_1).f1)) = some (r1, r2) := H
                          have A25 := Aside0.mk A250
                          clear A250
                          have H' := Aside0.mk H
                          clear H
                          have p154 : 0 ≤ (x34_2 : Int) := odt_
                          have q154 : x34_2 < (y150.length : Int) := odt_
                          obtain ⟨ad154, e154, hx154_0, hx154_1⟩ := at_T30 (by repeat (first | (with_reducible exact HR153.out) | (with_reducible refine Kd.C_alloc ?_ _) | (with_reducible refine Kd.C_drewN ?_ _) | (with_reducible refine Kd.C_drew ?_) | exact HR153.out)) x34_2 p154 q154
                          obtain rfl : ad148 = ad154 := (by injection e154)
                          replace p154 := eq_true p154
                          replace q154 := eq_true q154
                          try go_wp2_with (first | ((with_reducible refine gate_dst (N := 11) rfl ?_); refine box_event ?hg (N := 11) ?hd (cs := #[.int .i64 0, .int .i64 0]) (t := 30) ?hr ?_; (case hd => rfl); (case hg => rfl); (case hr => first | (go_simp; done) | (go_simp; rfl)); intro gb155 hg w26 hbox hb; have n0_ := Aside0.mk (Kd.R_below (Kd.R_elderB (rk_ HO_7.out) gb155 (Nat.le_of_eq hg.symm)) hb); have n1_ := Aside0.mk (Kd.R_below (Kd.R_elderB (rk_ HO_23.out) gb155 (Nat.le_of_eq hg.symm)) hb); have n2_ := bb_ BK144 hb; have n3_ := bb_ BK149 hb; have n4_ := Aside0.mk (Kd.C_below (by repeat (first | (with_reducible exact HR153.out) | (with_reducible refine Kd.C_alloc ?_ _) | (with_reducible refine Kd.C_drewN ?_ _) | (with_reducible refine Kd.C_drew ?_) | exact HR153.out)) hb); have n5_ := Aside0.mk (below_step (hbg_) hb); have n6_ := Aside0.mk (hbox); have n7_ := Aside0.mk ((by rw [hg]; exact (below_size (hbg_)) : w.heap.size ≤ gb155)); have n8_ := Aside0.mk ((by rw [hg]; exact (below_size (hbg_)) : w.heap.size ≤ gb155)); have n9_ := Aside0.mk ((by rw [hg]; exact Nat.ne_of_lt (blk_lt (bk_ BK144.out)) : gb144 ≠ gb155)); have n10_ := Aside0.mk ((by rw [hg]; exact Nat.ne_of_gt (blk_lt (bk_ BK144.out)) : gb155 ≠ gb144)); have n11_ := Aside0.mk ((by rw [hg]; exact Nat.ne_of_lt (blk_lt (bk_ BK149.out)) : gb149 ≠ gb155)); have n12_ := Aside0.mk ((by rw [hg]; exact Nat.ne_of_gt (blk_lt (bk_ BK149.out)) : gb155 ≠ gb149)); clear HO_7; clear HO_23; clear BK144; clear BK149; clear HR153; clear HB; have HO_7 := n0_; have HO_23 := n1_; have BK144 := n2_; have BK149 := n3_; have HR153 := n4_; have HB := n5_; have BK155 := n6_; have GW155 := n7_; have GE155 := n8_; have NB144_155 := n9_; have NB155_144 := n10_; have NB149_155 := n11_; have NB155_149 := n12_; clear n0_ n1_ n2_ n3_ n4_ n5_ n6_ n7_ n8_ n9_ n10_ n11_ n12_; clear hb hbox hg; have hnb27 := NB155_144.out; have hnc27 := NB144_155.out; have hnb28 := NB155_149.out; have hnc28 := NB149_155.out; have hcz29_0 : w26.cell? ⟨gb155, 0, none⟩ = some (.int .i64 0) := (blk_cell BK155.out 0).trans rfl; have hcz29_1 : w26.cell? ⟨gb155, 1, none⟩ = some (.int .i64 0) := (blk_cell BK155.out 1).trans rfl; have hfz29_0 := blk_frozen BK155.out 0; have hfz29_1 := blk_frozen BK155.out 1) | ((with_reducible refine gate_store (t := 30) (p := 11) rfl ?_); refine store_event (t := 30) (p := 11) (v := ?vo_w30) (w1 := ((w26.setCell ⟨gb155, 0, none⟩ (.int .i64 ((rd_T30 y150 x34_2).f0))).setCell ⟨gb155, 1, none⟩ (.int .i64 ((rd_T30 y150 x34_2).f1)))) ?hg ?ho ?hn ?hr ?_; (case ho => rfl); (case hg => rfl); (case hn => rfl); (case hr => first | (go_simp; done) | (go_simp; rfl)); intro w30 hw; have n0_ : Aside0 (Kd.R k30 30 w30 w.heap.size (fun k_ => k_ ≠ gb149 ∧ k_ ≠ gb155) (.slice (some ad148) t145.length co9) t145) := ⟨(by rw [hw]; exact (by (with_reducible repeat (first | apply Kd.R_alloc | apply Kd.R_drewN | apply Kd.R_drew)); exact Kd.R_mono (Kd.R_far (p := ⟨gb155, 1, none⟩) (Kd.R_far (p := ⟨gb155, 0, none⟩) (Kd.R_mono HO_7.out (fun k_ hk => (⟨hk, hk.2⟩ : _ ∧ k_ ≠ gb155))) (fun _ hk => hk.2) (.int .i64 ((rd_T30 y150 x34_2).f0))) (fun _ hk => hk.2) (.int .i64 ((rd_T30 y150 x34_2).f1))) (fun _ hk => ⟨hk.1.1, hk.1.2⟩)))⟩; have n1_ : Aside0 (Kd.R k30 30 w30 w.heap.size (fun k_ => k_ ≠ gb149 ∧ k_ ≠ gb155) (.slice (some ad148) t145.length co9) t145) := ⟨(by rw [hw]; exact (by (with_reducible repeat (first | apply Kd.R_alloc | apply Kd.R_drewN | apply Kd.R_drew)); exact Kd.R_mono (Kd.R_far (p := ⟨gb155, 1, none⟩) (Kd.R_far (p := ⟨gb155, 0, none⟩) (Kd.R_mono HO_23.out (fun k_ hk => (⟨hk, hk.2⟩ : _ ∧ k_ ≠ gb155))) (fun _ hk => hk.2) (.int .i64 ((rd_T30 y150 x34_2).f0))) (fun _ hk => hk.2) (.int .i64 ((rd_T30 y150 x34_2).f1))) (fun _ hk => ⟨hk.1.1, hk.1.2⟩)))⟩; have n2_ : Aside0 (Kd.C k30 w30 (some ad148) y150.length y150) := ⟨(by rw [hw]; exact ((by skip; exact (show ∀ W_ : World, Kd.C k30 W_ (some ad148) (t145.take (x25_1 : Int).toNat).length (t145.take (x25_1 : Int).toNat) → Kd.C k30 W_ (some ad148) y150.length y150 from fun W_ h_ => by rw [Ny150.out]; exact h_) _ (Kd.C_take (m := (x25_1 : Int).toNat) ((Kd.R_reads' (show Kd.R k30 30 ((w26.setCell ⟨gb155, 0, none⟩ (.int .i64 ((rd_T30 y150 x34_2).f0))).setCell ⟨gb155, 1, none⟩ (.int .i64 ((rd_T30 y150 x34_2).f1))) w.heap.size (fun k_ => k_ ≠ gb149 ∧ k_ ≠ gb155) (.slice (some ad148) t145.length co9) t145 from by (with_reducible repeat (first | apply Kd.R_alloc | apply Kd.R_drewN | apply Kd.R_drew)); exact Kd.R_mono (Kd.R_far (p := ⟨gb155, 1, none⟩) (Kd.R_far (p := ⟨gb155, 0, none⟩) (Kd.R_mono HO_7.out (fun k_ hk => (⟨hk, hk.2⟩ : _ ∧ k_ ≠ gb155))) (fun _ hk => hk.2) (.int .i64 ((rd_T30 y150 x34_2).f0))) (fun _ hk => hk.2) (.int .i64 ((rd_T30 y150 x34_2).f1))) (fun _ hk => ⟨hk.1.1, hk.1.2⟩))).2.2) KL19.out))))⟩; have n3_ : Aside0 (w30.heap[gb144]? = some (mapO cm_2)) := ⟨(by rw [hw]; exact (mf2_ BK144 NB144_155))⟩; have n4_ : Aside0 (w30.heap[gb149]? = some (.cells #[.int .i64 ((rd_T30 t145 x25_1).f0), .int .i64 ((rd_T30 t145 x25_1).f1)] 30 (0, 0))) := ⟨(by rw [hw]; exact (bf2_ BK149 NB149_155))⟩; have n5_ : Aside0 (w30.heap[gb155]? = some (.cells #[.int .i64 ((rd_T30 y150 x34_2).f0), .int .i64 ((rd_T30 y150 x34_2).f1)] 30 (0, 0))) := ⟨(by rw [hw]; exact (by (with_reducible repeat (first | refine blk_drewN ?_ _ | refine blk_drew ?_ | refine blk_alloc ?_ _)); refine blk_put (cs := #[.int .i64 ((rd_T30 y150 x34_2).f0), .int .i64 0]) ?_ 1 _ rfl; (with_reducible repeat (first | refine blk_drewN ?_ _ | refine blk_drew ?_ | refine blk_alloc ?_ _)); refine blk_put (cs := #[.int .i64 0, .int .i64 0]) ?_ 0 _ rfl; (with_reducible repeat (first | refine blk_drewN ?_ _ | refine blk_drew ?_ | refine blk_alloc ?_ _)); exact BK155.out))⟩; have n6_ : Aside0 (Below w.heap.size w w30) := ⟨(by rw [hw]; exact (hbg_))⟩; clear hw; clear HO_7; clear HO_23; clear HR153; clear BK144; clear BK149; clear BK155; clear HB; have HO_7 := n0_; have HO_23 := n1_; have HR153 := n2_; have BK144 := n3_; have BK149 := n4_; have BK155 := n5_; have HB := n6_; clear n0_ n1_ n2_ n3_ n4_ n5_ n6_))
                          have n0_ := Aside0.mk (Kd.R_drew HO_7.out)
                          have n1_ := Aside0.mk (Kd.R_drew HO_23.out)
                          have n2_ := Aside0.mk (blk_drew BK144.out)
                          have n3_ := Aside0.mk (blk_drew BK149.out)
                          have n4_ := Aside0.mk (blk_drew BK155.out)
                          have n5_ := Aside0.mk (Kd.C_drew HR153.out)
                          have n6_ := Aside0.mk (below_drew1 HB.out)
                          clear HO_7
                          clear HO_23
                          clear BK144
                          clear BK149
                          clear BK155
                          clear HR153
                          clear HB
                          have HO_7 := n0_
                          have HO_23 := n1_
                          have BK144 := n2_
                          have BK149 := n3_
                          have BK155 := n4_
                          have HR153 := n5_
                          have HB := n6_
                          clear n0_ n1_ n2_ n3_ n4_ n5_ n6_
                          have GK_ := Aside0.mk (impl_CountRectangles.keyOk (x := (t156, t157, t160)) (by have q_ := A23.out; unfold impl_Peg_plus.f at q_; simp only [Option.some.injEq, Prod.mk.injEq] at q_; rw [← q_.1]; exact wrap64_wf _) (by have q_ := A23.out; unfold impl_Peg_plus.f at q_; simp only [Option.some.injEq, Prod.mk.injEq] at q_; rw [← q_.2]; exact wrap64_wf _) (by have q_ := A25.out; unfold impl_Peg_square.f at q_; rw [← Option.some.inj q_]; exact wrap64_wf _))
                          refine start_ (n := 14) (S := fun w' => w'.cell? ⟨gb149, 0, none⟩ = some (.int .i64 ((rd_T30 t145 x25_1).f0)) ∧ w'.cell? ⟨gb149, 1, none⟩ = some (.int .i64 ((rd_T30 t145 x25_1).f1)) ∧ w'.cell? ⟨gb155, 0, none⟩ = some (.int .i64 ((rd_T30 y150 x34_2).f0)) ∧ w'.cell? ⟨gb155, 1, none⟩ = some (.int .i64 ((rd_T30 y150 x34_2).f1)) ∧ (w'.heap[gb144]? = some (mapO cm_2) ∨ w'.heap[gb144]? = some (mapO (enC cm_2 (t156, t157, t160))))) (ds := [13]) #[false, false, false, false, false, false, false, false, false, false, false, false, false, false] (by kernel_rfl) rfl rfl ⟨(blk_cell BK149.out 0).trans rfl, (blk_cell BK149.out 1).trans rfl, (blk_cell BK155.out 0).trans rfl, (blk_cell BK155.out 1).trans rfl, Or.inl BK144.out⟩ (fun hHeld => ?_); refine with_tabW impl_CountRectangles.tab11 impl_CountRectangles.bits11 (fun HT_ HW_ => ?_)
                          generalize w30.drew = w31 at HO_7 HO_23 BK144 BK149 BK155 HR153 HB hHeld ⊢
                          refine pure_ (i := 0) (N := some 38) (v := ?_) (a' := ?_) #[true, false, false, false, false, false, false, false, false, false, false, false, false, false] rfl rfl (any_of HT_.out (by kernel_rfl)) (fun _ _ _ h => h) (Or.inl ⟨by rfl, ?_⟩) ?_ ?_
                          rotate_left
                          · intro w'
                            go_simp
                            with_reducible rfl
                          rotate_left
                          · simp only [Act.put, sA, sB, sC, i64_w, i32_w]
                            rfl
                          refine take_ (i := 1) (N := some 39) (v := ?_) (a' := ?_) #[true, true, false, false, false, false, false, false, false, false, false, false, false, false] rfl rfl (take_ofW HT_.out HW_.out (by kernel_rfl)) (fun _ _ _ h => h) (Or.inl ⟨by rfl, ?_⟩) hHeld ?_ ?_
                          rotate_left
                          · rintro w' ⟨s0, s1, s2, s3, s4⟩
                            go_simp
                            with_reducible rfl
                          rotate_left
                          · simp only [Act.put, sA, sB, sC, i64_w, i32_w]
                            rfl
                          refine take_ (i := 2) (N := some 40) (v := ?_) (a' := ?_) #[true, true, true, false, false, false, false, false, false, false, false, false, false, false] rfl rfl (take_ofW HT_.out HW_.out (by kernel_rfl)) (fun _ _ _ h => h) (Or.inl ⟨by rfl, ?_⟩) hHeld ?_ ?_
                          rotate_left
                          · rintro w' ⟨s0, s1, s2, s3, s4⟩
                            go_simp
                            with_reducible rfl
                          rotate_left
                          · simp only [Act.put, sA, sB, sC, i64_w, i32_w]
                            rfl
                          refine take_ (i := 4) (N := some 42) (v := ?_) (a' := ?_) #[true, true, true, false, true, false, false, false, false, false, false, false, false, false] rfl rfl (take_ofW HT_.out HW_.out (by kernel_rfl)) (fun _ _ _ h => h) (Or.inl ⟨by rfl, ?_⟩) hHeld ?_ ?_
                          rotate_left
                          · rintro w' ⟨s0, s1, s2, s3, s4⟩
                            go_simp
                            with_reducible rfl
                          rotate_left
                          · simp only [Act.put, sA, sB, sC, i64_w, i32_w]
                            rfl
                          refine take_ (i := 5) (N := some 43) (v := ?_) (a' := ?_) #[true, true, true, false, true, true, false, false, false, false, false, false, false, false] rfl rfl (take_ofW HT_.out HW_.out (by kernel_rfl)) (fun _ _ _ h => h) (Or.inl ⟨by rfl, ?_⟩) hHeld ?_ ?_
                          rotate_left
                          · rintro w' ⟨s0, s1, s2, s3, s4⟩
                            go_simp
                            with_reducible rfl
                          rotate_left
                          · simp only [Act.put, sA, sB, sC, i64_w, i32_w]
                            rfl
                          refine one_ (i := 3) (N := some 41) #[true, true, true, true, true, true, false, false, false, false, false, false, false, false] rfl rfl (one_of HT_.out (by kernel_rfl)) (by decide) (fun K hK => ?_)
                          refine goes_ Try.func64 (by kernel_rfl) rfl #[.agg #[.int .i64 ((rd_T30 t145 x25_1).f0), .int .i64 ((rd_T30 t145 x25_1).f1)], .agg #[.int .i64 ((rd_T30 y150 x34_2).f0), .int .i64 ((rd_T30 y150 x34_2).f1)]] (by rfl) rfl rfl ga_ ?_
                          with_reducible refine (impl_Peg_plus.calls ((rd_T30 t145 x25_1).f0) ((rd_T30 t145 x25_1).f1) ((rd_T30 y150 x34_2).f0) ((rd_T30 y150 x34_2).f1) t156 t157 _ A23.out).mono ?_
                          rintro e w32 ⟨rfl, hb⟩
                          refine ⟨_, rfl, ?_⟩
                          have n0_ := Aside0.mk (Kd.R_below (rk_ HO_7.out) hb)
                          have n1_ := Aside0.mk (Kd.R_below (rk_ HO_23.out) hb)
                          have n2_ := bb_ BK144 hb
                          have n3_ := bb_ BK149 hb
                          have n4_ := Aside0.mk (Kd.C_below (by repeat (first | (with_reducible exact HR153.out) | (with_reducible refine Kd.C_alloc ?_ _) | (with_reducible refine Kd.C_drewN ?_ _) | (with_reducible refine Kd.C_drew ?_) | exact HR153.out)) hb)
                          have n5_ := bb_ BK155 hb
                          have n6_ := Aside0.mk (below_step (hbg_) hb)
                          clear HO_7
                          clear HO_23
                          clear BK144
                          clear BK149
                          clear HR153
                          clear BK155
                          clear HB
                          have HO_7 := n0_
                          have HO_23 := n1_
                          have BK144 := n2_
                          have BK149 := n3_
                          have HR153 := n4_
                          have BK155 := n5_
                          have HB := n6_
                          clear n0_ n1_ n2_ n3_ n4_ n5_ n6_
                          (try clear hb)
                          (try clear hb2)
                          (try clear hk)
                          (try clear hi)
                          refine hK.out _ _ ⟨(blk_cell BK149.out 0).trans rfl, (blk_cell BK149.out 1).trans rfl, (blk_cell BK155.out 0).trans rfl, (blk_cell BK155.out 1).trans rfl, Or.inl BK144.out⟩ (fun hHeld => ?_)
                          clear hK K
                          refine norm_ (a' := ?_) ?_ ?_
                          rotate_left
                          · show Act.put _ (some 41) _ = _
                            simp only [Act.put, sA, sB, sC, i64_w, i32_w]
                            rfl
                          refine one_ (i := 6) (N := some 44) #[true, true, true, true, true, true, true, false, false, false, false, false, false, false] rfl rfl (one_of HT_.out (by kernel_rfl)) (by decide) (fun K hK => ?_)
                          refine goes_ Try.func65 (by kernel_rfl) rfl #[.agg #[.int .i64 ((rd_T30 t145 x25_1).f0), .int .i64 ((rd_T30 t145 x25_1).f1)], .agg #[.int .i64 ((rd_T30 y150 x34_2).f0), .int .i64 ((rd_T30 y150 x34_2).f1)]] (by rfl) rfl rfl ga_ ?_
                          with_reducible refine (impl_Peg_less.calls ((rd_T30 t145 x25_1).f0) ((rd_T30 t145 x25_1).f1) ((rd_T30 y150 x34_2).f0) ((rd_T30 y150 x34_2).f1) t158 t159 _ A24.out).mono ?_
                          rintro e w33 ⟨rfl, hb⟩
                          refine ⟨_, rfl, ?_⟩
                          have n0_ := Aside0.mk (Kd.R_below (rk_ HO_7.out) hb)
                          have n1_ := Aside0.mk (Kd.R_below (rk_ HO_23.out) hb)
                          have n2_ := bb_ BK144 hb
                          have n3_ := bb_ BK149 hb
                          have n4_ := Aside0.mk (Kd.C_below (by repeat (first | (with_reducible exact HR153.out) | (with_reducible refine Kd.C_alloc ?_ _) | (with_reducible refine Kd.C_drewN ?_ _) | (with_reducible refine Kd.C_drew ?_) | exact HR153.out)) hb)
                          have n5_ := bb_ BK155 hb
                          have n6_ := Aside0.mk (below_step (hbg_) hb)
                          clear HO_7
                          clear HO_23
                          clear BK144
                          clear BK149
                          clear HR153
                          clear BK155
                          clear HB
                          have HO_7 := n0_
                          have HO_23 := n1_
                          have BK144 := n2_
                          have BK149 := n3_
                          have HR153 := n4_
                          have BK155 := n5_
                          have HB := n6_
                          clear n0_ n1_ n2_ n3_ n4_ n5_ n6_
                          (try clear hb)
                          (try clear hb2)
                          (try clear hk)
                          (try clear hi)
                          refine hK.out _ _ ⟨(blk_cell BK149.out 0).trans rfl, (blk_cell BK149.out 1).trans rfl, (blk_cell BK155.out 0).trans rfl, (blk_cell BK155.out 1).trans rfl, Or.inl BK144.out⟩ (fun hHeld => ?_)
                          clear hK K
                          refine norm_ (a' := ?_) ?_ ?_
                          rotate_left
                          · show Act.put _ (some 44) _ = _
                            simp only [Act.put, sA, sB, sC, i64_w, i32_w]
                            rfl
                          refine one_ (i := 7) (N := some 45) #[true, true, true, true, true, true, true, true, false, false, false, false, false, false] rfl rfl (one_of HT_.out (by kernel_rfl)) (by decide) (fun K hK => ?_)
                          refine goes_ Try.func66 (by kernel_rfl) rfl #[.agg #[.int .i64 t158, .int .i64 t159]] (by rfl) rfl rfl ga_ ?_
                          with_reducible refine (impl_Peg_square.calls t158 t159 t160 _ A25.out).mono ?_
                          rintro e w34 ⟨rfl, hb⟩
                          refine ⟨_, rfl, ?_⟩
                          have n0_ := Aside0.mk (Kd.R_below (rk_ HO_7.out) hb)
                          have n1_ := Aside0.mk (Kd.R_below (rk_ HO_23.out) hb)
                          have n2_ := bb_ BK144 hb
                          have n3_ := bb_ BK149 hb
                          have n4_ := Aside0.mk (Kd.C_below (by repeat (first | (with_reducible exact HR153.out) | (with_reducible refine Kd.C_alloc ?_ _) | (with_reducible refine Kd.C_drewN ?_ _) | (with_reducible refine Kd.C_drew ?_) | exact HR153.out)) hb)
                          have n5_ := bb_ BK155 hb
                          have n6_ := Aside0.mk (below_step (hbg_) hb)
                          clear HO_7
                          clear HO_23
                          clear BK144
                          clear BK149
                          clear HR153
                          clear BK155
                          clear HB
                          have HO_7 := n0_
                          have HO_23 := n1_
                          have BK144 := n2_
                          have BK149 := n3_
                          have HR153 := n4_
                          have BK155 := n5_
                          have HB := n6_
                          clear n0_ n1_ n2_ n3_ n4_ n5_ n6_
                          (try clear hb)
                          (try clear hb2)
                          (try clear hk)
                          (try clear hi)
                          refine hK.out _ _ ⟨(blk_cell BK149.out 0).trans rfl, (blk_cell BK149.out 1).trans rfl, (blk_cell BK155.out 0).trans rfl, (blk_cell BK155.out 1).trans rfl, Or.inl BK144.out⟩ (fun hHeld => ?_)
                          clear hK K
                          refine norm_ (a' := ?_) ?_ ?_
                          rotate_left
                          · show Act.put _ (some 45) _ = _
                            simp only [Act.put, sA, sB, sC, i64_w, i32_w]
                            rfl
                          refine pure_ (i := 8) (N := some 46) (v := ?_) (a' := ?_) #[true, true, true, true, true, true, true, true, true, false, false, false, false, false] rfl rfl (any_of HT_.out (by kernel_rfl)) (fun _ _ _ h => h) (Or.inl ⟨by rfl, ?_⟩) ?_ ?_
                          rotate_left
                          · intro w'
                            go_simp
                            with_reducible rfl
                          rotate_left
                          · simp only [Act.put, sA, sB, sC, i64_w, i32_w]
                            rfl
                          refine take_ (i := 9) (N := some 47) (v := ?_) (a' := ?_) #[true, true, true, true, true, true, true, true, true, true, false, false, false, false] rfl rfl (take_ofW HT_.out HW_.out (by kernel_rfl)) (fun _ _ _ h => h) (Or.inl ⟨by rfl, ?_⟩) hHeld ?_ ?_
                          rotate_left
                          · rintro w' ⟨s0, s1, s2, s3, s4⟩
                            refine look_exec (x := (t156, t157, t160)) (.tmp 38) (.tmp 46) ?h1 ?h2 ?h3 impl_CountRectangles.keyLaw Try.underlying49 Try.zeroValue3 GC_.out GK_.out s4
                            case h1 => rfl
                            case h2 => rfl
                            case h3 => rfl
                          rotate_left
                          · simp only [Act.put, sA, sB, sC, i64_w, i32_w]
                            rfl
                          refine pure_ (i := 10) (N := some 48) (v := ?_) (a' := ?_) #[true, true, true, true, true, true, true, true, true, true, true, false, false, false] rfl rfl (any_of HT_.out (by kernel_rfl)) (fun _ _ _ h => h) (Or.inl ⟨by rfl, ?_⟩) ?_ ?_
                          rotate_left
                          · intro w'
                            go_simp
                            with_reducible rfl
                          rotate_left
                          · simp only [Act.put, sA, sB, sC, i64_w, i32_w]
                            rfl
                          refine one_ (i := 11) (N := some 49) #[true, true, true, true, true, true, true, true, true, true, true, true, false, false] rfl rfl (one_of HT_.out (by kernel_rfl)) (by decide) (fun K hK => ?_)
                          refine entry_step (x := (t156, t157, t160)) (by rfl) (.tmp 38) (.tmp 46) (by rfl) (by rfl) (by rfl) impl_CountRectangles.keyLaw Try.underlying49 Try.zeroValue3 GC_.out GK_.out BK144.out ?_
                          have n0_ := Aside0.mk (R_map BK144.out (mapO (enC cm_2 (t156, t157, t160))) HO_7.out)
                          have n1_ := Aside0.mk (R_map BK144.out (mapO (enC cm_2 (t156, t157, t160))) HO_23.out)
                          have n2_ := Aside0.mk (blk_map BK144.out (mapO (enC cm_2 (t156, t157, t160))) BK149.out)
                          have n3_ := Aside0.mk (blk_map BK144.out (mapO (enC cm_2 (t156, t157, t160))) BK155.out)
                          have n4_ := Aside0.mk (below_map BK144.out (mapO (enC cm_2 (t156, t157, t160))) HB.out GE144.out)
                          have n5_ := Aside0.mk (put_map BK144.out (enC cm_2 (t156, t157, t160)))
                          clear HO_7
                          clear HO_23
                          clear BK149
                          clear BK155
                          clear HB
                          clear BK144
                          have HO_7 := n0_
                          have HO_23 := n1_
                          have BK149 := n2_
                          have BK155 := n3_
                          have HB := n4_
                          have BK144 := n5_
                          clear n0_ n1_ n2_ n3_ n4_ n5_
                          clear HR153
                          refine hK.out _ _ ⟨(blk_cell BK149.out 0).trans rfl, (blk_cell BK149.out 1).trans rfl, (blk_cell BK155.out 0).trans rfl, (blk_cell BK155.out 1).trans rfl, Or.inr BK144.out⟩ (fun hHeld => ?_)
                          clear hK K
                          refine norm_ (a' := ?_) ?_ ?_
                          rotate_left
                          · show Act.put _ (some 49) _ = _
                            simp only [Act.put, sA, sB, sC, i64_w, i32_w]
                            rfl
                          refine pure_ (i := 12) (N := some 50) (v := ?_) (a' := ?_) #[true, true, true, true, true, true, true, true, true, true, true, true, true, false] rfl rfl (any_of HT_.out (by kernel_rfl)) (fun _ _ _ h => h) (Or.inl ⟨by rfl, ?_⟩) ?_ ?_
                          rotate_left
                          · intro w'
                            go_simp
                            with_reducible rfl
                          rotate_left
                          · simp only [Act.put, sA, sB, sC, i64_w, i32_w]
                            rfl
                          refine last_ (i := 13) (N := none) #[true, true, true, true, true, true, true, true, true, true, true, true, true, true] rfl rfl (one_of HT_.out (by kernel_rfl)) (by decide) (fun K hK => ?_)
                          refine estore_step (t := 49) (cs := cm_2) (x := (t156, t157, t160)) (by rfl) rfl (.tmp 38) (.tmp 50) (.tmp 48) (by rfl) (by rfl) (by rfl) (by rfl) rfl BK144.out ?_
                          have n0_ := Aside0.mk (R_map BK144.out (mapO (putC cm_2 (t156, t157, t160))) HO_7.out)
                          have n1_ := Aside0.mk (R_map BK144.out (mapO (putC cm_2 (t156, t157, t160))) HO_23.out)
                          have n2_ := Aside0.mk (blk_map BK144.out (mapO (putC cm_2 (t156, t157, t160))) BK149.out)
                          have n3_ := Aside0.mk (blk_map BK144.out (mapO (putC cm_2 (t156, t157, t160))) BK155.out)
                          have n4_ := Aside0.mk (below_map BK144.out (mapO (putC cm_2 (t156, t157, t160))) HB.out GE144.out)
                          have n5_ := Aside0.mk (put_map BK144.out (putC cm_2 (t156, t157, t160)))
                          clear HO_7
                          clear HO_23
                          clear BK149
                          clear BK155
                          clear HB
                          clear BK144
                          have HO_7 := n0_
                          have HO_23 := n1_
                          have BK149 := n2_
                          have BK155 := n3_
                          have HB := n4_
                          have BK144 := n5_
                          clear n0_ n1_ n2_ n3_ n4_ n5_
                          refine hK.out _ _ ?_
                          clear hK K
                          refine done_ (done_of HT_.out (by kernel_rfl)) ?_
                          try go_wp2
                          go_roundg k2
                          case measure => have := HK1.out; have := HK2.out; omega
                          case rel => exact ⟨(wrap64 (x34_2 + 1)), putC cm_2 (t156, t157, t160), (by first | rfl | (simp; done) | (simp [*]; done)), H', ⟨by have := HK1.out; have := HK2.out; omega⟩, ⟨Kd.R_mono HO_7.out (fun _ hk => hk.1)⟩, ⟨Kd.R_mono HO_23.out (fun _ hk => hk.1)⟩, ⟨BK144.out⟩, ⟨GC_.out.put GK_.out⟩, ⟨BK149.out⟩, ⟨by skip; exact (show ∀ W_ : World, Kd.C k30 W_ (some ad148) (t145.take (x25_1 : Int).toNat).length (t145.take (x25_1 : Int).toNat) → Kd.C k30 W_ (some ad148) y150.length y150 from fun W_ h_ => by rw [Ny150.out]; exact h_) _ (Kd.C_take (m := (x25_1 : Int).toNat) ((Kd.R_reads' HO_7.out).2.2) KL19.out)⟩, ⟨HB.out⟩⟩
                        · rw [if_neg c22] at H
                          exact absurd H (by simp)
                      · rw [if_neg c21] at H
                        exact absurd H (by simp)
                    · rw [if_neg c20] at H
                      have c20b0 : decide (x34_2 < (y150.length : Int)) = false := decide_eq_false c20
                      clear c20
                      have H' := Aside0.mk H
                      clear H
                      go_wp2
                      go_roundg k2
                      case measure => have := HK1.out; have := HK2.out; omega
                      case rel => exact ⟨(wrap64 (x25_1 + 1)), cm_2, (by first | rfl | (simp; done) | (simp [*]; done)), H', ⟨by have := HK1.out; have := HK2.out; omega⟩, ⟨by (with_reducible repeat (first | apply Kd.R_alloc | apply Kd.R_drewN | apply Kd.R_drew)); exact Kd.R_mono HO_7.out (fun _ hk => trivial)⟩, ⟨by (with_reducible repeat (first | apply Kd.R_alloc | apply Kd.R_drewN | apply Kd.R_drew)); exact Kd.R_mono HO_23.out (fun _ hk => trivial)⟩, ⟨bk_ BK144.out⟩, ⟨GC_.out⟩, ⟨hbg_⟩⟩
              · rw [if_neg c14] at H
                exact absurd H (by simp)
            · rw [if_neg c12] at H
              exact absurd H (by simp)
          · rw [if_neg c11] at H
            exact absurd H (by simp)
        · rw [if_neg c10] at H
          have c10b0 : decide (x25_1 < (t145.length : Int)) = false := decide_eq_false c10
          clear c10
          obtain ⟨s1_, A90, H⟩ := Option.bind_eq_some_iff.mp H
          simp only [Option.some.injEq, Prod.mk.injEq] at H
          obtain ⟨rfl, rfl⟩ := H
          obtain ⟨hV_, rfl⟩ := impl_CountRectangles.sumV_eq A90
          have HV_ := Aside0.mk hV_
          clear hV_ A90 HO_7 HO_23
          go_wp2_with (first | ((with_reducible refine gate_dst (N := 54) rfl ?_); refine range_event (t := 49) (cs := cm_1) ?hg (N := 54) ?hd (.tmp 53) ?ho Try.underlying49 ?hm BK144.out ?_; (case hd => rfl); (case hg => rfl); (case ho => rfl); (case hm => rfl); intro rr_ hrr_ w36 hit_ hb; have n0_ := Aside0.mk (hit_); have n1_ := bb_ BK144 hb; have n2_ := Aside0.mk (below_step (hb_) hb); have n3_ := Aside0.mk ((by rw [hrr_]; exact (below_size (hb_)) : w.heap.size ≤ rr_)); clear BK144 HB; have HI_ := n0_; have BK144 := n1_; have HB := n2_; have GR_ := n3_; clear n0_ n1_ n2_ n3_; clear hit_ hb hrr_))
          go_loopg [12] cm_1.length (fun kq v12 w' => ∃ (ac_ : Int) (sn_ : Array Nat), v12 = .int .i64 ac_ ∧ Aside0 ((leftOf (esL 0 cm_1).toArray sn_).size ≤ kq) ∧ Aside0 (wrap64 (ac_ + leftS (fun c => (impl_choose.f k1 c 2).getD 0) cm_1 sn_) = wrap64 (sumC (fun c => (impl_choose.f k1 c 2).getD 0) cm_1)) ∧ Aside0 (wrap64 ac_ = ac_) ∧ Aside0 (w'.heap[gb144]? = some (mapO cm_1)) ∧ Aside0 (w'.heap[rr_]? = some (.mapIter (some gb144) cm_1.length sn_ cm_1.length)) ∧ Aside0 (Below w.heap.size w w'))
          case atStart => exact ⟨0, #[], (by first | rfl | (simp; done) | (simp [*]; done)), ⟨left_size cm_1⟩, ⟨by rw [left_all, Int.zero_add]⟩, ⟨by unfold wrap64; omega⟩, ⟨BK144.out⟩, ⟨HI_.out⟩, ⟨hb_⟩⟩
          case round =>
            clear BK144 HI_ HB HK1 c10b0
            obtain ⟨ac_, sn_, rfl, HK2, HS_, HW_, BK144, HI_, HB⟩ := hrel
            go_wp2_with (first | ((with_reducible refine gate_dst (N := 55) rfl ?_); refine next_event (cs := cm_1) (seen := sn_) (r := rr_) ?hg (N := 55) ?hd (.tmp 54) ?ho ?hi BK144.out HI_.out ?hDone ?hMore; (case hd => rfl); (case hg => rfl); (case ho => rfl); (case hi => rfl)))
            case hDone =>
              intro h0_
              have F_ := Aside0.mk (show wrap64 (sumC (fun c => (impl_choose.f k1 c 2).getD 0) cm_1) = ac_ by rw [← HS_.out, left_none _ _ _ h0_.out, Int.add_zero, HW_.out])
              clear h0_
              go_wp2
              go_ret2
              exact ⟨by rw [F_.out]; first | rfl | (simp [errW_none, errW_some] <;> rfl), hb_⟩
            case hMore =>
              intro en_ ct_ w37 hen_ HIn BKn hbl_ hrun0_
              have hrun_ := hrun0_.out
              obtain ⟨p_, hp1_, hp2_⟩ := hen_.ex
              have A10 := Aside0.mk (show impl_choose.f k1 ct_ 2 = some ((impl_choose.f k1 ct_ 2).getD 0) by rw [← hp2_]; exact HV_.out p_ hp1_)
              have HBn := Aside0.mk (hbl_.out w HB.out GR_.out)
              have HL_ := Aside0.mk (left_step (fun c => (impl_choose.f k1 c 2).getD 0) cm_1 sn_ hen_.mem)
              have HM_ := Aside0.mk (left_shrinks _ _ _ hen_.mem)
              have HE_ := Aside0.mk (show vE (fun c => (impl_choose.f k1 c 2).getD 0) en_ = (impl_choose.f k1 ct_ 2).getD 0 by unfold vE; rw [hen_.val])
              clear hbl_ hp1_ hp2_ hrun0_ BK144 HI_ HB hen_
              have HB := HBn
              clear HBn
              go_wp2_with (first | ((with_reducible refine gate_callee (f := 67) rfl ?_); refine goesL_ (some 61) rfl rfl Try.func67 (by kernel_rfl) rfl #[.int .i64 ct_, .int .i64 2] rfl ga_ ?_; (with_reducible refine (impl_choose.calls k1 ct_ 2 ((impl_choose.f k1 ct_ 2).getD 0) _ A10.out).mono ?_); rintro e w' ⟨rfl, ⟨nd, rfl⟩⟩; refine ⟨_, rfl, ?_⟩))
              go_roundg ((leftOf (esL 0 cm_1).toArray (sn_.push en_.born)).size)
              case measure => have := HM_.out; have := HK2.out; omega
              case rel => exact ⟨_, sn_.push en_.born, rfl, ⟨Nat.le_refl _⟩, ⟨by rw [← HS_.out, HL_.out, HE_.out, w64_add, Int.add_assoc]⟩, ⟨w64_w64 _⟩, ⟨BKn.out⟩, ⟨HIn.out⟩, ⟨hb_⟩⟩
  · replace c4 := Bool.eq_false_iff.mpr c4
    subst c4
    have H1 : (some (0, false)) = some (r1, r2) := by rw [if_neg (show ¬ (false = true) by decide)] at H; exact H
    clear H
    have H := H1
    clear H1
    simp only [Option.some.injEq, Prod.mk.injEq] at H
    obtain ⟨rfl, rfl⟩ := H
    go_enter Try.func27, Try.ntmps27
    go_wp2_with (first | ((with_reducible refine gate_callee (f := 45) rfl ?_); refine goesL_ (some 17) rfl rfl Try.func45 (by kernel_rfl) rfl #[.int .i64 a0, .int .i64 a1, .int .i64 6] rfl ga_ ?_; (with_reducible refine (impl_isBoard.calls a0 a1 6 false _ A3.out).mono ?_); rintro e w' ⟨rfl, ⟨nd, rfl⟩⟩; refine ⟨_, rfl, ?_⟩))
    go_ret2
    exact ⟨by first | rfl | (simp [errW_none, errW_some] <;> rfl) | (simp [*, errW_none, errW_some] <;> rfl), hb_⟩

end Go.Proofs.Ytookmifpgclhlaa.MR
