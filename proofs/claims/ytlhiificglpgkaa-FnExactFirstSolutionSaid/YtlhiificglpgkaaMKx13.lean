-- Written by a program of this session (wip/print/myprint.py) over the kit's printer; Lean checks it.
import Derived.Test.YtlhiificglpgkaaMKx0
import Derived.Test.YtlhiificglpgkaaMKx12
namespace Go.Proofs.Ytlhiificglpgkaa.MK
open Go.RowKit Go.Proofs.YtlhiificglpgkaaW.PrintWords Go.Proofs.YtlhiificglpgkaaW.PrintLast Go.Proofs.YtlhiificglpgkaaW.PrintMore Go.Proofs.YtlhiificglpgkaaV
attribute [local go_sem] max2_int min2_int max_two min_two max_three min_three max_four min_four   -- for this text's walks alone
set_option linter.unusedVariables false
set_option linter.unusedSimpArgs false

/-! ### slices_DeleteFunc_impl_Peg_impl_Peg: function 98 -/
def slices_DeleteFunc_impl_Peg_impl_Peg.l0 : Nat → List (S41) → Int → Int → List (S39) → Option ((List (S41)))
  | 0, _, _, _, _ => none
  | k + 1, x0, x5, x6, x3000 => if x6 < (x0.length : Int) then (if 0 ≤ x6 then ((impl_Puzzle_solutions_1.f k ((rd_T41 x0 x6).f0) ((rd_T41 x0 x6).f1) x3000).bind fun t233 => (if t233 = true then (slices_DeleteFunc_impl_Peg_impl_Peg.l0 k x0 x5 (wrap64 (x6 + 1)) x3000) else (if 0 ≤ x5 then (if x5 < (x0.length : Int) then (slices_DeleteFunc_impl_Peg_impl_Peg.l0 k (x0.set (x5 : Int).toNat (⟨(rd_T41 x0 x6).f0, (rd_T41 x0 x6).f1⟩ : S41)) (wrap64 (x5 + 1)) (wrap64 (x6 + 1)) x3000) else (none)) else (none)))) else (none)) else (if 0 ≤ x5 then (if x5 ≤ (x0.length : Int) then (some ((x0.take (x5 : Int).toNat ++ List.replicate (x0.length - (x5 : Int).toNat) z41).take (x5 : Int).toNat)) else (none)) else (none))
def slices_DeleteFunc_impl_Peg_impl_Peg.f (k : Nat) (l0 : List (S41))  (l2_0 : List (S39)) : Option ((List (S41))) := (slices_IndexFunc_impl_Peg_impl_Peg.f k l0 l2_0).bind fun t230 => (if t230 = (-1) then (some l0) else (slices_DeleteFunc_impl_Peg_impl_Peg.l0 k l0 t230 (wrap64 (t230 + 1)) l2_0))
theorem slices_DeleteFunc_impl_Peg_impl_Peg.mono_l : ∀ k, (∀ y0 y1 y2 y3, LeO (slices_DeleteFunc_impl_Peg_impl_Peg.l0 k y0 y1 y2 y3) (slices_DeleteFunc_impl_Peg_impl_Peg.l0 (k + 1) y0 y1 y2 y3))
  | 0 => fun _ _ _ _ r h => by simp [slices_DeleteFunc_impl_Peg_impl_Peg.l0] at h
  | k + 1 => by
    have ih0 := slices_DeleteFunc_impl_Peg_impl_Peg.mono_l k
    · intro y0 y1 y2 y3
      unfold slices_DeleteFunc_impl_Peg_impl_Peg.l0
      repeat' first
      | (with_reducible exact ih0 _ _ _ _)
      | (with_reducible exact impl_Puzzle_solutions_1.mono _ _ _ _)
      | (with_reducible exact slices_IndexFunc_impl_Peg_impl_Peg.mono _ _ _)
      | (with_reducible exact LeO.refl _)
      | (with_reducible exact LeO.none _)
      | (with_reducible refine LeO.ite ?_ ?_)
      | (with_reducible refine LeO.bind ?_ (fun _ => ?_))
      | exact ih0 _ _ _ _
      | exact impl_Puzzle_solutions_1.mono _ _ _ _
      | exact slices_IndexFunc_impl_Peg_impl_Peg.mono _ _ _
      | exact LeO.none _
      | refine LeO.ite ?_ ?_
      | refine LeO.bind ?_ (fun _ => ?_)
theorem slices_DeleteFunc_impl_Peg_impl_Peg.mono : ∀ a0 a1 k, LeO (slices_DeleteFunc_impl_Peg_impl_Peg.f k a0 a1) (slices_DeleteFunc_impl_Peg_impl_Peg.f (k + 1) a0 a1) := by
  intro a0 a1 k
  have ih0 := slices_DeleteFunc_impl_Peg_impl_Peg.mono_l k
  unfold slices_DeleteFunc_impl_Peg_impl_Peg.f
  repeat' first
      | (with_reducible exact ih0 _ _ _ _)
      | (with_reducible exact impl_Puzzle_solutions_1.mono _ _ _ _)
      | (with_reducible exact slices_IndexFunc_impl_Peg_impl_Peg.mono _ _ _)
      | (with_reducible exact LeO.refl _)
      | (with_reducible exact LeO.none _)
      | (with_reducible refine LeO.ite ?_ ?_)
      | (with_reducible refine LeO.bind ?_ (fun _ => ?_))
      | exact ih0 _ _ _ _
      | exact impl_Puzzle_solutions_1.mono _ _ _ _
      | exact slices_IndexFunc_impl_Peg_impl_Peg.mono _ _ _
      | exact LeO.none _
      | refine LeO.ite ?_ ?_
      | refine LeO.bind ?_ (fun _ => ?_)
set_option maxHeartbeats 8000000 in
set_option maxRecDepth 100000 in
theorem slices_DeleteFunc_impl_Peg_impl_Peg.calls (k : Nat) (P0_ : Nat → Prop) (u9000_ : Value) (l0 : List (S41))  (g2_ : Nat) (A2_0 : Option Addr) (c2_0 : Nat) (l2_0 : List (S39)) (r : List (S41)) (w0 w : World) (hB : Below w0.heap.size w0 w) (ho0 : Kd.R k41 41 w w0.heap.size P0_ u9000_ l0) (hr2_0 : ∀ W_, Kept w W_ (fun k_ => P0_ k_) → Kd.C k39 W_ A2_0 l2_0.length l2_0) (hc2_0 : l2_0.length ≤ c2_0) (hro2 : w.heap[g2_]? = some (.cells #[.slice A2_0 l2_0.length c2_0] 27 (0, 0))) (h : slices_DeleteFunc_impl_Peg_impl_Peg.f k l0 l2_0 = some r) :
    Calls Try.prog 98 #[u9000_, .func (.func 100) #[] #[.pointer (some ⟨g2_, 0, none⟩)]] w fun e w' => ∃ v0_ : Value, e = .returned (v0_) ∧ Kd.R k41 41 w' w0.heap.size (fun k_ => (P0_ k_ ∨ w.heap.size ≤ k_)) v0_ r ∧ Below w0.heap.size w0 w' ∧ Kept w w' (fun k_ => P0_ k_) := by
  have hu41 := Try.underlying41
  have HO0 := Aside0.mk (show Kd.R k41 41 w w0.heap.size (fun k_ => (P0_ k_ ∨ w.heap.size ≤ k_)) u9000_ l0 from Kd.R_mono ho0 (fun k_ hk => (.inl hk)))
  have HR2_0 := Aside0.mk hr2_0
  have HC2_0 := Aside0.mk hc2_0
  clear hr2_0 hc2_0
  have HK := Aside0.mk (Kept.refl w (fun k_ => P0_ k_))
  have BK2 := Aside0.mk hro2
  clear hro2
  have HW0 := Aside0.mk hB.size
  have HB := Aside0.mk hB
  clear hB
  have H : ((slices_IndexFunc_impl_Peg_impl_Peg.f k l0 l2_0).bind fun t230 => (if t230 = (-1) then (some l0) else (slices_DeleteFunc_impl_Peg_impl_Peg.l0 k l0 t230 (wrap64 (t230 + 1)) l2_0))) = some r := h
  clear h
  replace H := Option.bind_eq_some_iff.mp H
  obtain ⟨t230, A40, H⟩ := H
  replace H : (if t230 = (-1) then (some l0) else (slices_DeleteFunc_impl_Peg_impl_Peg.l0 k l0 t230 (wrap64 (t230 + 1)) l2_0)) = some r := H
  have A4 := Aside0.mk A40
  clear A40
  by_cases c5 : t230 = (-1)
  · rw [if_pos c5] at H
    have c5b0 : (t230 == (-1)) = true := beq_iff_eq.mpr c5
    have c5b1 : (t230 != (-1)) = false := bne_eq_false_iff_eq.mpr c5
    clear c5
    obtain rfl := Option.some.inj H
    obtain ⟨Ao6, co6, eo6⟩ := Kd.R_slice HO0.out
    subst eo6
    go_enter Try.func98, Try.ntmps98
    go_wp2_with (first | ((with_reducible refine gate_callee (f := 110) rfl ?_); refine goesL_ (some 10) rfl rfl Try.func110 (by kernel_rfl) rfl #[.slice Ao6 l0.length co6, .func (.func 100) #[] #[.pointer (some ⟨g2_, 0, none⟩)]] rfl ga_ ?_; (with_reducible refine (slices_IndexFunc_impl_Peg_impl_Peg.calls k _ _ l0  g2_ A2_0 c2_0 l2_0 t230 _ ?side1 ?side2 ?side3 ?side4 ?side5 A4.out).mono ?_); (case side1 => repeat (first | exact (Kd.R_reads' HO0.out).2.2 | (with_reducible refine Kd.C_alloc ?_ _) | (with_reducible refine Kd.C_drewN ?_ _) | (with_reducible refine Kd.C_drew ?_))); (case side2 => exact (Kd.R_reads' HO0.out).2.1); (case side3 => exact Kd.C_kept_now HR2_0.out (by repeat (first | (with_reducible first | exact HK.out | apply Kept.alloc | apply Kept.drewN | apply Kept.drew | refine Kept.setCell ?_ (.inr GW2.out) _) | exact HK.out))); (case side4 => exact HC2_0.out); (case side5 => exact (bk_ BK2.out)); rintro e w7 ⟨rfl, hb⟩; refine ⟨_, rfl, ?_⟩; have n0_ := Aside0.mk (Kd.R_below (rk_ HO0.out) hb); have n1_ := bb_ BK2 hb; have n2_ := Aside0.mk (Kept.below (S := (fun k_ => P0_ k_)) (by repeat (first | (with_reducible first | exact HK.out | apply Kept.alloc | apply Kept.drewN | apply Kept.drew | refine Kept.setCell ?_ (.inr GW2.out) _) | exact HK.out)) hb); have n3_ := Aside0.mk (below_step (hbg_) hb); clear HO0; clear BK2; clear HK; clear HB; have HO0 := n0_; have BK2 := n1_; have HK := n2_; have HB := n3_; clear n0_ n1_ n2_ n3_; (try clear hb); (try clear hb2); (try clear hk); (try clear hi)))
    go_ret
    exact ⟨_, by first | rfl | (simp [errW_none, errW_some] <;> rfl) | (simp [*, errW_none, errW_some] <;> rfl), by (with_reducible repeat (first | apply Kd.R_alloc | apply Kd.R_drewN | apply Kd.R_drew)); exact HO0.out, hbg_, by repeat (first | (with_reducible first | exact HK.out | apply Kept.alloc | apply Kept.drewN | apply Kept.drew | refine Kept.setCell ?_ (.inr GW2.out) _) | exact HK.out)⟩
  · rw [if_neg c5] at H
    have c5b0 : (t230 == (-1)) = false := beq_eq_false_iff_ne.mpr c5
    have c5b1 : (t230 != (-1)) = true := bne_iff_ne.mpr c5
    have H' := Aside0.mk H
    clear H
    obtain ⟨Ao8, co8, eo8⟩ := Kd.R_slice HO0.out
    subst eo8
    go_enter Try.func98, Try.ntmps98
    go_wp2_with (first | ((with_reducible refine gate_callee (f := 110) rfl ?_); refine goesL_ (some 10) rfl rfl Try.func110 (by kernel_rfl) rfl #[.slice Ao8 l0.length co8, .func (.func 100) #[] #[.pointer (some ⟨g2_, 0, none⟩)]] rfl ga_ ?_; (with_reducible refine (slices_IndexFunc_impl_Peg_impl_Peg.calls k _ _ l0  g2_ A2_0 c2_0 l2_0 t230 _ ?side1 ?side2 ?side3 ?side4 ?side5 A4.out).mono ?_); (case side1 => repeat (first | exact (Kd.R_reads' HO0.out).2.2 | (with_reducible refine Kd.C_alloc ?_ _) | (with_reducible refine Kd.C_drewN ?_ _) | (with_reducible refine Kd.C_drew ?_))); (case side2 => exact (Kd.R_reads' HO0.out).2.1); (case side3 => exact Kd.C_kept_now HR2_0.out (by repeat (first | (with_reducible first | exact HK.out | apply Kept.alloc | apply Kept.drewN | apply Kept.drew | refine Kept.setCell ?_ (.inr GW2.out) _) | exact HK.out))); (case side4 => exact HC2_0.out); (case side5 => exact (bk_ BK2.out)); rintro e w9 ⟨rfl, hb⟩; refine ⟨_, rfl, ?_⟩; have n0_ := Aside0.mk (Kd.R_below (rk_ HO0.out) hb); have n1_ := bb_ BK2 hb; have n2_ := Aside0.mk (Kept.below (S := (fun k_ => P0_ k_)) (by repeat (first | (with_reducible first | exact HK.out | apply Kept.alloc | apply Kept.drewN | apply Kept.drew | refine Kept.setCell ?_ (.inr GW2.out) _) | exact HK.out)) hb); have n3_ := Aside0.mk (below_step (hbg_) hb); clear HO0; clear BK2; clear HK; clear HB; have HO0 := n0_; have BK2 := n1_; have HK := n2_; have HB := n3_; clear n0_ n1_ n2_ n3_; (try clear hb); (try clear hb2); (try clear hk); (try clear hi)))
    go_loopg [5, 6] k (fun kq v5 v6 w' => ∃ (x0_1 : List (S41)) (x5_1 : Int) (x6_1 : Int), v5 = .int .i64 x5_1 ∧ v6 = .int .i64 x6_1 ∧ Aside0 (slices_DeleteFunc_impl_Peg_impl_Peg.l0 kq x0_1 x5_1 x6_1 l2_0 = some r) ∧ Aside0 (kq ≤ k) ∧ Aside0 (Kd.R k41 41 w' w0.heap.size (fun k_ => (P0_ k_ ∨ w.heap.size ≤ k_)) (.slice Ao8 l0.length co8) x0_1) ∧ Aside0 (w'.heap[g2_]? = some (.cells #[(.slice A2_0 l2_0.length c2_0)] 27 (0, 0))) ∧ Aside0 (Kept w w' (fun k_ => P0_ k_)) ∧ Aside0 (Below w0.heap.size w0 w'))
    case atStart => exact ⟨(l0), (t230), (wrap64 (t230 + 1)), (by first | rfl | (simp; done) | (simp [*]; done)), (by first | rfl | (simp; done) | (simp [*]; done)), H', ⟨Nat.le_refl _⟩, ⟨rk_ HO0.out⟩, ⟨bk_ BK2.out⟩, ⟨by repeat (first | (with_reducible first | exact HK.out | apply Kept.alloc | apply Kept.drewN | apply Kept.drew | refine Kept.setCell ?_ (.inr GW2.out) _) | exact HK.out)⟩, ⟨hbg_⟩⟩
    case round =>
      clear H'
      try clear c1
      try clear c2
      try clear p2
      try clear c5
      try clear c5b0
      try clear c5b1
      try clear p6
      try clear c9
      obtain ⟨x0_1, x5_1, x6_1, rfl, rfl, HA, HK1, HO_0, BK2, HK, HB⟩ := hrel
      have hl0_1 := (Kd.R_reads' HO_0.out).1
      rw [hl0_1] at HO_0
      (try simp only [hl0_1])
      (try simp only [hl0_1] at BK2)
      cases gk with
      | zero => exact absurd HA.out (by simp [slices_DeleteFunc_impl_Peg_impl_Peg.l0])
      | succ k1 =>
        have H := HA.out
        clear HA
        simp only [slices_DeleteFunc_impl_Peg_impl_Peg.l0] at H
        by_cases c10 : x6_1 < (x0_1.length : Int)
        · rw [if_pos c10] at H
          have c10b0 : decide (x6_1 < (x0_1.length : Int)) = true := decide_eq_true c10
          (try simp only [hl0_1] at c10b0)
          clear c10
          by_cases c11 : 0 ≤ x6_1
          · rw [if_pos c11] at H
            have c11b0 : decide (0 ≤ x6_1) = true := decide_eq_true c11
            clear c11
            replace H := Option.bind_eq_some_iff.mp H
            obtain ⟨t233, A120, H⟩ := H
            replace H : (if t233 = true then (slices_DeleteFunc_impl_Peg_impl_Peg.l0 k1 x0_1 x5_1 (wrap64 (x6_1 + 1)) l2_0) else (if 0 ≤ x5_1 then (if x5_1 < (x0_1.length : Int) then (slices_DeleteFunc_impl_Peg_impl_Peg.l0 k1 (x0_1.set (x5_1 : Int).toNat (⟨(rd_T41 x0_1 x6_1).f0, (rd_T41 x0_1 x6_1).f1⟩ : S41)) (wrap64 (x5_1 + 1)) (wrap64 (x6_1 + 1)) l2_0) else (none)) else (none))) = some r := H
            have A12 := Aside0.mk A120
            clear A120
            by_cases c13 : t233 = true
            · subst c13
              have H1 : (slices_DeleteFunc_impl_Peg_impl_Peg.l0 k1 x0_1 x5_1 (wrap64 (x6_1 + 1)) l2_0) = some r := by rw [if_pos rfl] at H; exact H
              clear H
              have H := H1
              clear H1
              have H' := Aside0.mk H
              clear H
              have p231 : 0 ≤ (x6_1 : Int) := odt_
              have q231 : x6_1 < (x0_1.length : Int) := odt_
              obtain ⟨ad231, e231, hx231_0, hx231_1⟩ := at_T41 (Kd.R_reads' HO_0.out).2.2 x6_1 p231 q231
              cases e231
              replace p231 := eq_true p231
              replace q231 := eq_true q231
              go_wp2_with (first | ((with_reducible refine gate_dst (N := 7) rfl ?_); refine box_event ?hg (N := 7) ?hd (cs := #[.int .i64 0, .int .i64 0]) (t := 41) ?hr ?_; (case hd => rfl); (case hg => rfl); (case hr => first | (go_simp; done) | (go_simp; rfl)); intro gb232 hg w14 hbox hb; have n0_ := Aside0.mk (Kd.R_below (Kd.R_elderB (rk_ HO_0.out) gb232 (Nat.le_of_eq hg.symm)) hb); have n1_ := bb_ BK2 hb; have n2_ := Aside0.mk (Kept.below (S := (fun k_ => P0_ k_)) (by repeat (first | (with_reducible first | exact HK.out | apply Kept.alloc | apply Kept.drewN | apply Kept.drew | refine Kept.setCell ?_ (.inr GW2.out) _) | exact HK.out)) hb); have n3_ := Aside0.mk (below_step (hbg_) hb); have n4_ := Aside0.mk (hbox); have n5_ := Aside0.mk ((by rw [hg]; exact (by first | exact HK.out.1 | exact (show Kept w _ (fun k_ => P0_ k_) from by repeat (first | (with_reducible first | exact HK.out | apply Kept.alloc | apply Kept.drewN | apply Kept.drew | refine Kept.setCell ?_ (.inr GW2.out) _) | exact HK.out)).1) : w.heap.size ≤ gb232)); have n6_ := Aside0.mk ((by rw [hg]; exact (below_size (hbg_)) : w0.heap.size ≤ gb232)); have n7_ := Aside0.mk ((by rw [hg]; exact Nat.ne_of_lt (blk_lt (bk_ BK2.out)) : g2_ ≠ gb232)); have n8_ := Aside0.mk ((by rw [hg]; exact Nat.ne_of_gt (blk_lt (bk_ BK2.out)) : gb232 ≠ g2_)); clear HO_0; clear BK2; clear HK; clear HB; have HO_0 := n0_; have BK2 := n1_; have HK := n2_; have HB := n3_; have BK232 := n4_; have GW232 := n5_; have GE232 := n6_; have NB2_232 := n7_; have NB232_2 := n8_; clear n0_ n1_ n2_ n3_ n4_ n5_ n6_ n7_ n8_; clear hb hbox hg; have hnb15 := NB232_2.out; have hnc15 := NB2_232.out; have hcz16_0 : w14.cell? ⟨gb232, 0, none⟩ = some (.int .i64 0) := (blk_cell BK232.out 0).trans rfl; have hcz16_1 : w14.cell? ⟨gb232, 1, none⟩ = some (.int .i64 0) := (blk_cell BK232.out 1).trans rfl; have hfz16_0 := blk_frozen BK232.out 0; have hfz16_1 := blk_frozen BK232.out 1) | ((with_reducible refine gate_via (s := 26) rfl ?_); refine goesD_ (some 28) rfl rfl (f := 100) Try.func100 (by kernel_rfl) rfl #[.agg #[.int .i64 ((rd_T41 x0_1 x6_1).f0), .int .i64 ((rd_T41 x0_1 x6_1).f1)]] #[.pointer (some ⟨g2_, 0, none⟩)] #[.agg #[.int .i64 ((rd_T41 x0_1 x6_1).f0), .int .i64 ((rd_T41 x0_1 x6_1).f1)], .pointer (some ⟨g2_, 0, none⟩)] rfl rfl rfl (by (try simp only [List.map_toArray, List.map_cons, List.map_nil]); first | done | rfl) ?_; (with_reducible refine (impl_Puzzle_solutions_1.calls k1 ((rd_T41 x0_1 x6_1).f0) ((rd_T41 x0_1 x6_1).f1) g2_ A2_0 c2_0 l2_0 true _ ?side1 ?side2 ?side3 A12.out).mono ?_); (case side1 => exact Kd.C_kept_now HR2_0.out (by repeat (first | (with_reducible first | exact HK.out | apply Kept.alloc | apply Kept.drewN | apply Kept.drew | refine Kept.setCell ?_ (.inr GW2.out) _ | refine Kept.setCell ?_ (.inr GW232.out) _) | exact HK.out))); (case side2 => exact HC2_0.out); (case side3 => exact (bf2_ BK2 NB2_232)); rintro e w17 ⟨rfl, hb⟩; refine ⟨_, rfl, ?_⟩; have n0_ := Aside0.mk (Kd.R_below (by (with_reducible repeat (first | apply Kd.R_alloc | apply Kd.R_drewN | apply Kd.R_drew)); exact (Kd.R_mono (Kd.R_far (p := ⟨gb232, 1, none⟩) (Kd.R_far (p := ⟨gb232, 0, none⟩) (Kd.R_mono HO_0.out (fun k_ hk => (⟨hk, hk.2⟩ : _ ∧ k_ ≠ gb232))) (fun _ hk => hk.2) (.int .i64 ((rd_T41 x0_1 x6_1).f0))) (fun _ hk => hk.2) (.int .i64 ((rd_T41 x0_1 x6_1).f1))) (fun _ h_ => h_.1))) hb); have n1_ := Aside0.mk (blk_below (g := g2_) (o := .cells #[.slice A2_0 l2_0.length c2_0] 27 (0, 0)) (bf2_ BK2 NB2_232) hb); have n2_ := Aside0.mk (blk_below (g := gb232) (o := .cells #[.int .i64 ((rd_T41 x0_1 x6_1).f0), .int .i64 ((rd_T41 x0_1 x6_1).f1)] 41 (0, 0)) (by (with_reducible repeat (first | refine blk_drewN ?_ _ | refine blk_drew ?_ | refine blk_alloc ?_ _)); refine blk_put (cs := #[.int .i64 ((rd_T41 x0_1 x6_1).f0), .int .i64 0]) ?_ 1 _ rfl; (with_reducible repeat (first | refine blk_drewN ?_ _ | refine blk_drew ?_ | refine blk_alloc ?_ _)); refine blk_put (cs := #[.int .i64 0, .int .i64 0]) ?_ 0 _ rfl; (with_reducible repeat (first | refine blk_drewN ?_ _ | refine blk_drew ?_ | refine blk_alloc ?_ _)); exact BK232.out) hb); have n3_ := Aside0.mk (Kept.below (S := (fun k_ => P0_ k_)) (by repeat (first | (with_reducible first | exact HK.out | apply Kept.alloc | apply Kept.drewN | apply Kept.drew | refine Kept.setCell ?_ (.inr GW2.out) _ | refine Kept.setCell ?_ (.inr GW232.out) _) | exact HK.out)) hb); have n4_ := Aside0.mk (below_step (hbg_) hb); clear HO_0; clear BK2; clear BK232; clear HK; clear HB; have HO_0 := n0_; have BK2 := n1_; have BK232 := n2_; have HK := n3_; have HB := n4_; clear n0_ n1_ n2_ n3_ n4_; (try clear hb); (try clear hb2); (try clear hk); (try clear hi)))
              (try simp only [← hl0_1])
              go_roundg k1
              case measure => have := HK1.out; omega
              case rel => exact ⟨(x0_1), (x5_1), (wrap64 (x6_1 + 1)), (by first | rfl | (simp; done) | (simp [*]; done)), (by first | rfl | (simp; done) | (simp [*]; done)), H', ⟨by have := HK1.out; omega⟩, ⟨by (try simp only [hl0_1]); (with_reducible repeat (first | apply Kd.R_alloc | apply Kd.R_drewN | apply Kd.R_drew)); exact Kd.R_mono HO_0.out (fun _ hk => hk.1)⟩, ⟨by (try simp only [hl0_1]); (with_reducible repeat (first | refine blk_drewN ?_ _ | refine blk_drew ?_ | refine blk_alloc ?_ _)); exact BK2.out⟩, ⟨by repeat (first | (with_reducible first | exact HK.out | apply Kept.alloc | apply Kept.drewN | apply Kept.drew | refine Kept.setCell ?_ (.inr GW2.out) _ | refine Kept.setCell ?_ (.inr GW232.out) _) | exact HK.out)⟩, ⟨hbg_⟩⟩
            · replace c13 := Bool.eq_false_iff.mpr c13
              subst c13
              have H1 : (if 0 ≤ x5_1 then (if x5_1 < (x0_1.length : Int) then (slices_DeleteFunc_impl_Peg_impl_Peg.l0 k1 (x0_1.set (x5_1 : Int).toNat (⟨(rd_T41 x0_1 x6_1).f0, (rd_T41 x0_1 x6_1).f1⟩ : S41)) (wrap64 (x5_1 + 1)) (wrap64 (x6_1 + 1)) l2_0) else (none)) else (none)) = some r := by rw [if_neg (show ¬ (false = true) by decide)] at H; exact H
              clear H
              have H := H1
              clear H1
              by_cases c18 : 0 ≤ x5_1
              · rw [if_pos c18] at H
                have c18b0 : decide (0 ≤ x5_1) = true := decide_eq_true c18
                clear c18
                by_cases c19 : x5_1 < (x0_1.length : Int)
                · rw [if_pos c19] at H
                  have c19b0 : decide (x5_1 < (x0_1.length : Int)) = true := decide_eq_true c19
                  (try simp only [hl0_1] at c19b0)
                  clear c19
                  obtain ⟨y234, hy234⟩ : ∃ y_ : List (S41), y_ = (x0_1.set (x5_1 : Int).toNat (⟨(rd_T41 x0_1 x6_1).f0, (rd_T41 x0_1 x6_1).f1⟩ : S41)) := ⟨_, rfl⟩
                  replace H : (slices_DeleteFunc_impl_Peg_impl_Peg.l0 k1 y234 (wrap64 (x5_1 + 1)) (wrap64 (x6_1 + 1)) l2_0) = some r := by first | (rw [hy234]; with_reducible exact H) | (have H2_ := (Option.bind_some _ _).symm.trans H; rw [hy234]; with_reducible exact H2_) | (have H2_ := (Option.bind_some _ _).symm.trans H; with_reducible exact H2_) | with_reducible exact H | (rw [hy234]; exact H) | exact H
                  have Ny234 := Aside0.mk hy234
                  clear hy234
                  have H' := Aside0.mk H
                  clear H
                  have p231 : 0 ≤ (x6_1 : Int) := odt_
                  have q231 : x6_1 < (x0_1.length : Int) := odt_
                  obtain ⟨ad231, e231, hx231_0, hx231_1⟩ := at_T41 (Kd.R_reads' HO_0.out).2.2 x6_1 p231 q231
                  cases e231
                  replace p231 := eq_true p231
                  replace q231 := eq_true q231
                  go_wp2_with (first | ((with_reducible refine gate_dst (N := 7) rfl ?_); refine box_event ?hg (N := 7) ?hd (cs := #[.int .i64 0, .int .i64 0]) (t := 41) ?hr ?_; (case hd => rfl); (case hg => rfl); (case hr => first | (go_simp; done) | (go_simp; rfl)); intro gb232 hg w21 hbox hb; have n0_ := Aside0.mk (Kd.R_below (Kd.R_elderB (rk_ HO_0.out) gb232 (Nat.le_of_eq hg.symm)) hb); have n1_ := bb_ BK2 hb; have n2_ := Aside0.mk (Kept.below (S := (fun k_ => P0_ k_)) (by repeat (first | (with_reducible first | exact HK.out | apply Kept.alloc | apply Kept.drewN | apply Kept.drew | refine Kept.setCell ?_ (.inr GW2.out) _) | exact HK.out)) hb); have n3_ := Aside0.mk (below_step (hbg_) hb); have n4_ := Aside0.mk (hbox); have n5_ := Aside0.mk ((by rw [hg]; exact (by first | exact HK.out.1 | exact (show Kept w _ (fun k_ => P0_ k_) from by repeat (first | (with_reducible first | exact HK.out | apply Kept.alloc | apply Kept.drewN | apply Kept.drew | refine Kept.setCell ?_ (.inr GW2.out) _) | exact HK.out)).1) : w.heap.size ≤ gb232)); have n6_ := Aside0.mk ((by rw [hg]; exact (below_size (hbg_)) : w0.heap.size ≤ gb232)); have n7_ := Aside0.mk ((by rw [hg]; exact Nat.ne_of_lt (blk_lt (bk_ BK2.out)) : g2_ ≠ gb232)); have n8_ := Aside0.mk ((by rw [hg]; exact Nat.ne_of_gt (blk_lt (bk_ BK2.out)) : gb232 ≠ g2_)); clear HO_0; clear BK2; clear HK; clear HB; have HO_0 := n0_; have BK2 := n1_; have HK := n2_; have HB := n3_; have BK232 := n4_; have GW232 := n5_; have GE232 := n6_; have NB2_232 := n7_; have NB232_2 := n8_; clear n0_ n1_ n2_ n3_ n4_ n5_ n6_ n7_ n8_; clear hb hbox hg; have hnb22 := NB232_2.out; have hnc22 := NB2_232.out; have hcz23_0 : w21.cell? ⟨gb232, 0, none⟩ = some (.int .i64 0) := (blk_cell BK232.out 0).trans rfl; have hcz23_1 : w21.cell? ⟨gb232, 1, none⟩ = some (.int .i64 0) := (blk_cell BK232.out 1).trans rfl; have hfz23_0 := blk_frozen BK232.out 0; have hfz23_1 := blk_frozen BK232.out 1) | ((with_reducible refine gate_via (s := 26) rfl ?_); refine goesD_ (some 28) rfl rfl (f := 100) Try.func100 (by kernel_rfl) rfl #[.agg #[.int .i64 ((rd_T41 x0_1 x6_1).f0), .int .i64 ((rd_T41 x0_1 x6_1).f1)]] #[.pointer (some ⟨g2_, 0, none⟩)] #[.agg #[.int .i64 ((rd_T41 x0_1 x6_1).f0), .int .i64 ((rd_T41 x0_1 x6_1).f1)], .pointer (some ⟨g2_, 0, none⟩)] rfl rfl rfl (by (try simp only [List.map_toArray, List.map_cons, List.map_nil]); first | done | rfl) ?_; (with_reducible refine (impl_Puzzle_solutions_1.calls k1 ((rd_T41 x0_1 x6_1).f0) ((rd_T41 x0_1 x6_1).f1) g2_ A2_0 c2_0 l2_0 false _ ?side1 ?side2 ?side3 A12.out).mono ?_); (case side1 => exact Kd.C_kept_now HR2_0.out (by repeat (first | (with_reducible first | exact HK.out | apply Kept.alloc | apply Kept.drewN | apply Kept.drew | refine Kept.setCell ?_ (.inr GW2.out) _ | refine Kept.setCell ?_ (.inr GW232.out) _) | exact HK.out))); (case side2 => exact HC2_0.out); (case side3 => exact (bf2_ BK2 NB2_232)); rintro e w24 ⟨rfl, hb⟩; refine ⟨_, rfl, ?_⟩; have n0_ := Aside0.mk (Kd.R_below (by (with_reducible repeat (first | apply Kd.R_alloc | apply Kd.R_drewN | apply Kd.R_drew)); exact (Kd.R_mono (Kd.R_far (p := ⟨gb232, 1, none⟩) (Kd.R_far (p := ⟨gb232, 0, none⟩) (Kd.R_mono HO_0.out (fun k_ hk => (⟨hk, hk.2⟩ : _ ∧ k_ ≠ gb232))) (fun _ hk => hk.2) (.int .i64 ((rd_T41 x0_1 x6_1).f0))) (fun _ hk => hk.2) (.int .i64 ((rd_T41 x0_1 x6_1).f1))) (fun _ h_ => h_.1))) hb); have n1_ := Aside0.mk (blk_below (g := g2_) (o := .cells #[.slice A2_0 l2_0.length c2_0] 27 (0, 0)) (bf2_ BK2 NB2_232) hb); have n2_ := Aside0.mk (blk_below (g := gb232) (o := .cells #[.int .i64 ((rd_T41 x0_1 x6_1).f0), .int .i64 ((rd_T41 x0_1 x6_1).f1)] 41 (0, 0)) (by (with_reducible repeat (first | refine blk_drewN ?_ _ | refine blk_drew ?_ | refine blk_alloc ?_ _)); refine blk_put (cs := #[.int .i64 ((rd_T41 x0_1 x6_1).f0), .int .i64 0]) ?_ 1 _ rfl; (with_reducible repeat (first | refine blk_drewN ?_ _ | refine blk_drew ?_ | refine blk_alloc ?_ _)); refine blk_put (cs := #[.int .i64 0, .int .i64 0]) ?_ 0 _ rfl; (with_reducible repeat (first | refine blk_drewN ?_ _ | refine blk_drew ?_ | refine blk_alloc ?_ _)); exact BK232.out) hb); have n3_ := Aside0.mk (Kept.below (S := (fun k_ => P0_ k_)) (by repeat (first | (with_reducible first | exact HK.out | apply Kept.alloc | apply Kept.drewN | apply Kept.drew | refine Kept.setCell ?_ (.inr GW2.out) _ | refine Kept.setCell ?_ (.inr GW232.out) _) | exact HK.out)) hb); have n4_ := Aside0.mk (below_step (hbg_) hb); clear HO_0; clear BK2; clear BK232; clear HK; clear HB; have HO_0 := n0_; have BK2 := n1_; have BK232 := n2_; have HK := n3_; have HB := n4_; clear n0_ n1_ n2_ n3_ n4_; (try clear hb); (try clear hb2); (try clear hk); (try clear hi); have hcz25_0 : w24.cell? ⟨gb232, 0, none⟩ = some (.int .i64 ((rd_T41 x0_1 x6_1).f0)) := (blk_cell BK232.out 0).trans rfl; have hcz25_1 : w24.cell? ⟨gb232, 1, none⟩ = some (.int .i64 ((rd_T41 x0_1 x6_1).f1)) := (blk_cell BK232.out 1).trans rfl; have hfz25_0 := blk_frozen BK232.out 0; have hfz25_1 := blk_frozen BK232.out 1; have p20 : 0 ≤ (x5_1 : Int) := odt_; have q20 : (x5_1 : Int) < ((x0_1.length : Int) : Int) := odt_; obtain ⟨go20, co20, eo20, gb20, gl20, cl20, HG20⟩ := Kd.R_form HO_0.out (by omega); (first | cases eo20 | (injection eo20 with ea_ en_ ec_; (first | subst ea_ | (injection ea_ with ea_; subst ea_)); subst ec_; clear en_)); have GB20 := Aside0.mk gb20; have GG20 := Aside0.mk HG20; clear gb20 gl20 HG20; have HMgo20 := Aside0.mk (show (P0_ go20 ∨ w.heap.size ≤ go20) from (HO_0.out.1 _ rfl).1); (first | simp only [add_plain] at hx231_0 | skip); (first | simp only [add_plain] at hx231_1 | skip); obtain ⟨ce20, hcl20, hM20, hcc20, hfr20⟩ := Kd.R_elem HO_0.out z41 (x5_1 : Int) p20 q20; obtain rfl := k41_openM hM20; have hx20_0 : w24.cell? ⟨go20, (x5_1 : Int).toNat * 2, none⟩ = some (.int .i64 ((rd_T41 x0_1 x5_1).f0)) := hcc20 0 _ rfl; have hx20_1 : w24.cell? ⟨go20, (x5_1 : Int).toNat * 2 + 1, none⟩ = some (.int .i64 ((rd_T41 x0_1 x5_1).f1)) := hcc20 1 _ rfl; have hf20_0 : w24.frozen? ⟨go20, (x5_1 : Int).toNat * 2, none⟩ = false := hfr20 0; have hf20_1 : w24.frozen? ⟨go20, (x5_1 : Int).toNat * 2 + 1, none⟩ = false := hfr20 1; clear hcl20 hcc20 hfr20 hM20; replace p20 := eq_true p20; replace q20 := eq_true q20; have HX26 := Aside0.mk (show Kd.R k41 41 w24 w0.heap.size (fun k_ => (P0_ k_ ∨ w.heap.size ≤ k_) ∧ k_ ≠ gb232) (.slice (some ⟨go20, 0, none⟩) x0_1.length co8) x0_1 from (rk_ HO_0.out)); obtain ⟨ce26, hcl26, hM26, hcc26, hfr26⟩ := Kd.R_elem HX26.out z41 (x5_1 : Int) (odt_) (by have h_ : (x5_1 : Int) < ((x0_1.length : Int) : Int) := odt_; first | exact h_ | (have e_ := (Kd.R_reads' HO_0.out).1; omega) | simpa using h_); obtain rfl := k41_openM hM26; have HP26 := Kd.R_seg HX26.out (x5_1 : Int) (odt_) (by have h_ : (x5_1 : Int) < ((x0_1.length : Int) : Int) := odt_; first | exact h_ | (have e_ := (Kd.R_reads' HO_0.out).1; omega) | simpa using h_) (seg := [.int .i64 ((rd_T41 x0_1 x6_1).f0), .int .i64 ((rd_T41 x0_1 x6_1).f1)]) (j := 0) hcl26 hcc26 (show 2 ≤ 2 from by decide) (x' := (⟨(rd_T41 x0_1 x6_1).f0, (rd_T41 x0_1 x6_1).f1⟩ : S41)) (k41_mkM _ _ _ (⟨(rd_T41 x0_1 x6_1).f0, (rd_T41 x0_1 x6_1).f1⟩ : S41) ) (fun _ hk => hk); have hx26_0 := hcc26 0 _ rfl; (try simp only [show (k41).sz = 2 from rfl, Nat.mul_one, Nat.add_zero] at hx26_0); have hf26_0 := hfr26 0; (try simp only [show (k41).sz = 2 from rfl, Nat.mul_one, Nat.add_zero] at hf26_0); have hx26_1 := hcc26 1 _ rfl; (try simp only [show (k41).sz = 2 from rfl, Nat.mul_one, Nat.add_zero] at hx26_1); have hf26_1 := hfr26 1; (try simp only [show (k41).sz = 2 from rfl, Nat.mul_one, Nat.add_zero] at hf26_1); clear hcl26 hcc26 hfr26 hM26) | ((with_reducible refine gate_store (t := 41) (p := 33) rfl ?_); refine store_event (t := 41) (p := 33) (v := ?vo_w27) (w1 := ((w24.setCell ⟨go20, (x5_1 : Int).toNat * 2, none⟩ (.int .i64 ((rd_T41 x0_1 x6_1).f0))).setCell ⟨go20, (x5_1 : Int).toNat * 2 + 1, none⟩ (.int .i64 ((rd_T41 x0_1 x6_1).f1)))) ?hg ?ho ?hn ?hr ?_; (case ho => rfl); (case hg => rfl); (case hn => rfl); (case hr => first | (go_simp; done) | (go_simp; rfl)); intro w27 hw; have hg : w24.grownBy w27 (some go20) := (by rw [hw]; exact HP26.2); have hp_ : Kd.R k41 41 w27 w0.heap.size (fun k_ => (P0_ k_ ∨ w.heap.size ≤ k_) ∧ k_ ≠ gb232) (.slice (some ⟨go20, 0, none⟩) x0_1.length co8) y234 := (by rw [hw, Ny234.out]; exact HP26.1); clear HP26; have n0_ := Aside0.mk (hp_); have n1_ := Aside0.mk (blk_grown (g := g2_) (o := .cells #[.slice A2_0 l2_0.length c2_0] 27 (0, 0)) (bk_ BK2.out) hg (Kd.R_ne HO_0.out BK2.out (by decide))); have n2_ := Aside0.mk (blk_grown (g := gb232) (o := .cells #[.int .i64 ((rd_T41 x0_1 x6_1).f0), .int .i64 ((rd_T41 x0_1 x6_1).f1)] 41 (0, 0)) (bk_ BK232.out) hg (Kd.R_away HO_0.out (fun _ hk => hk.2))); have n3_ := Aside0.mk ((by rw [hw]; exact below_set (below_set (HB.out) GB20.out) GB20.out : Below w0.heap.size w0 w27)); have n4_ := Aside0.mk (Kept.of_grown (S := (fun k_ => P0_ k_)) hg (by repeat (first | (with_reducible first | exact HK.out | apply Kept.alloc | apply Kept.drewN | apply Kept.drew | refine Kept.setCell ?_ (.inr GW2.out) _ | refine Kept.setCell ?_ (.inr GW232.out) _) | exact HK.out)) (fun k_ e_ => (HO_0.out.1 k_ e_).1)); clear HO_0; clear BK2; clear BK232; clear HB; clear HK; have HO_0 := n0_; have BK2 := n1_; have BK232 := n2_; have HB := n3_; have HK := n4_; clear n0_ n1_ n2_ n3_ n4_; clear hg hw hp_))
                  (try simp only [← hl0_1])
                  go_roundg k1
                  case measure => have := HK1.out; omega
                  case rel => exact ⟨(y234), (wrap64 (x5_1 + 1)), (wrap64 (x6_1 + 1)), (by first | rfl | (simp; done) | (simp [*]; done)), (by first | rfl | (simp; done) | (simp [*]; done)), H', ⟨by have := HK1.out; omega⟩, ⟨by (try simp only [hl0_1]); (with_reducible repeat (first | apply Kd.R_alloc | apply Kd.R_drewN | apply Kd.R_drew)); exact Kd.R_mono HO_0.out (fun _ hk => hk.1)⟩, ⟨by (try simp only [hl0_1]); (with_reducible repeat (first | refine blk_drewN ?_ _ | refine blk_drew ?_ | refine blk_alloc ?_ _)); exact BK2.out⟩, ⟨by repeat (first | (with_reducible first | exact HK.out | apply Kept.alloc | apply Kept.drewN | apply Kept.drew | refine Kept.setCell ?_ (.inr GW2.out) _ | refine Kept.setCell ?_ (.inr GW232.out) _) | exact HK.out)⟩, ⟨hbg_⟩⟩
                · rw [if_neg c19] at H
                  exact absurd H (by simp)
              · rw [if_neg c18] at H
                exact absurd H (by simp)
          · rw [if_neg c11] at H
            exact absurd H (by simp)
        · rw [if_neg c10] at H
          have c10b0 : decide (x6_1 < (x0_1.length : Int)) = false := decide_eq_false c10
          (try simp only [hl0_1] at c10b0)
          clear c10
          by_cases c28 : 0 ≤ x5_1
          · rw [if_pos c28] at H
            have c28b0 := eq_true c28
            have c28b1 : decide (0 ≤ x5_1) = true := decide_eq_true c28
            clear c28
            by_cases c29 : x5_1 ≤ (x0_1.length : Int)
            · rw [if_pos c29] at H
              have c29b0 := eq_true c29
              have c29b1 : decide (x5_1 ≤ (x0_1.length : Int)) = true := decide_eq_true c29
              (try simp only [hl0_1] at c29b1)
              clear c29
              obtain ⟨y235, hy235⟩ : ∃ y_ : List (S41), y_ = (x0_1.drop (x5_1 : Int).toNat) := ⟨_, rfl⟩
              replace H : (some ((x0_1.take (x5_1 : Int).toNat ++ List.replicate (x0_1.length - (x5_1 : Int).toNat) z41).take (x5_1 : Int).toNat)) = some r := by first | (rw [hy235]; with_reducible exact H) | (have H2_ := (Option.bind_some _ _).symm.trans H; rw [hy235]; with_reducible exact H2_) | (have H2_ := (Option.bind_some _ _).symm.trans H; with_reducible exact H2_) | with_reducible exact H | (rw [hy235]; exact H) | exact H
              have Ny235 := Aside0.mk hy235
              clear hy235
              obtain ⟨y239, hy239⟩ : ∃ y_ : List (S41), y_ = (x0_1.take (x5_1 : Int).toNat ++ List.replicate (x0_1.length - (x5_1 : Int).toNat) z41) := ⟨_, rfl⟩
              replace H : (some (y239.take (x5_1 : Int).toNat)) = some r := by first | (rw [hy239]; with_reducible exact H) | (have H2_ := (Option.bind_some _ _).symm.trans H; rw [hy239]; with_reducible exact H2_) | (have H2_ := (Option.bind_some _ _).symm.trans H; with_reducible exact H2_) | with_reducible exact H | (rw [hy239]; exact H) | exact H
              have Ny239 := Aside0.mk hy239
              clear hy239
              have c30b0 := eq_true (odt_ : x5_1 ≤ (x0_1.length : Int))
              obtain ⟨y240, hy240⟩ : ∃ y_ : List (S41), y_ = (y239.take (x5_1 : Int).toNat) := ⟨_, rfl⟩
              replace H : (some y240) = some r := by first | (rw [hy240]; with_reducible exact H) | (have H2_ := (Option.bind_some _ _).symm.trans H; rw [hy240]; with_reducible exact H2_) | (have H2_ := (Option.bind_some _ _).symm.trans H; with_reducible exact H2_) | with_reducible exact H | (rw [hy240]; exact H) | exact H
              have Ny240 := Aside0.mk hy240
              clear hy240
              obtain rfl := Option.some.inj H
              have q31 : (x5_1 : Int) ≤ ((x0_1.length : Int) : Int) := odt_
              obtain ⟨i031, hi031, _, hsz31, _⟩ := info_parts info41
              have hroom31 : x0_1.length ≤ co8 := (Kd.R_reads' HO_0.out).2.1
              have hC31 : Kd.C k41 _ Ao8 x0_1.length x0_1 := (Kd.R_reads' HO_0.out).2.2
              have q031 : (0 : Int) ≤ (x5_1 : Int) := odt_
              have hcut31 := cut_from (P := Try.prog) 86 41 .i64 Try.underlying86 hi031 2 hsz31 Ao8 x0_1.length co8 x5_1 q031 q31
              have hr31 := Kd.C_drop (m := (x5_1 : Int).toNat) (c := co8) hC31 (by omega) hroom31
              obtain ⟨A31, hA31⟩ : ∃ A1, A1 = (if co8 = (x5_1 : Int).toNat then Ao8 else (Ao8 : Option Addr).map (·.add ((x5_1 : Int).toNat * 2))) := ⟨_, rfl⟩
              obtain ⟨c31, hc31⟩ : ∃ c1, c1 = co8 - (x5_1 : Int).toNat := ⟨_, rfl⟩
              have hy31 : y235.length = x0_1.length - (x5_1 : Int).toNat := (by rw [Ny235.out, List.length_drop] <;> omega)
              rw [show (x0_1).drop (x5_1 : Int).toNat = y235 from Ny235.out.symm] at hr31
              replace hr31 : Kd.C k41 _ A31 y235.length y235 := (by rw [hA31]; exact hr31)
              rw [← hy31, ← hA31, ← hc31] at hcut31
              have HR238 := Aside0.mk hr31
              have HC238 := Aside0.mk (show y235.length ≤ c31 from by rw [hy31, hc31]; exact Nat.sub_le_sub_right hroom31 _)
              clear hr31 hC31 hroom31 hi031 hsz31 hc31
              have KY31 := Aside0.mk hy31
              have KA31 := Aside0.mk hA31
              clear hy31 hA31
              have KL31 := Aside0.mk (show (x5_1 : Int).toNat ≤ x0_1.length from by omega)
              replace q31 := eq_true q31
              go_wp2_with (first | ((with_reducible refine gate_builtin (b := .clear) (xs := #[.tmp 38]) rfl ?_); have hk_ := KL31.out; have hx_ := (Kd.R_reads' HO_0.out).1; refine R_clear k41 (w0 := w0) w0.heap.size rfl rfl (.tmp 38) 86 41 rfl Try.underlying86 (.agg #[(.int .i64 0), (.int .i64 0)]) z41 Try.zeroValue41 rfl (by decide) (n := x0_1.length) (c := co8) (i := (x5_1 : Int).toNat) (A0 := Ao8) rfl ?hA ?hm (rk_ HO_0.out) (fun _ _ => (k41_mkM _ _ _ z41)) ?hk (hbg_) (below_size (hbg_)) ?_; (case hA => exact KA31.out); (case hm => exact KY31.out); (case hk => omega); intro w32 ho hb hg; clear hk_; rw [show (x0_1.take (x5_1 : Int).toNat ++ List.replicate (x0_1.length - (x5_1 : Int).toNat) z41) = y239 from (by rw [Ny239.out, ← hx_])] at ho; clear hx_; have n0_ := Aside0.mk (ho); have n1_ := Aside0.mk (blk_grown (g := g2_) (o := .cells #[.slice A2_0 l2_0.length c2_0] 27 (0, 0)) (bk_ BK2.out) hg (Kd.R_ne HO_0.out BK2.out (by decide))); have n2_ := Aside0.mk (hb); have n3_ := Aside0.mk (Kept.of_grown (S := (fun k_ => P0_ k_)) hg (by repeat (first | (with_reducible first | exact HK.out | apply Kept.alloc | apply Kept.drewN | apply Kept.drew | refine Kept.setCell ?_ (.inr GW2.out) _) | exact HK.out)) (fun k_ e_ => (HO_0.out.1 k_ e_))); clear HO_0; clear BK2; clear HB; clear HK; have HO_0 := n0_; have BK2 := n1_; have HB := n2_; have HK := n3_; clear n0_ n1_ n2_ n3_; clear ho hb hg; have hlx34 := (Kd.R_reads' HO_0.out).1; have q34 : (x5_1 : Int) ≤ ((x0_1.length : Int) : Int) := odt_; obtain ⟨i034, hi034, _, hsz34, _⟩ := info_parts info41; have hcut34 := cut_to (P := Try.prog) 86 41 .i64 Try.underlying86 hi034 Ao8 x0_1.length co8 x5_1 (odt_) q34 (Kd.R_reads' HO_0.out).2.1; have hr34 := Kd.R_take (m := (x5_1 : Int).toNat) HO_0.out (by omega); have hy34 : y240.length = (x5_1 : Int).toNat := (by rw [Ny240.out, List.length_take]; omega); rw [← Ny240.out] at hr34; rw [← hy34] at hr34 hcut34; clear hy34 hi034 hsz34 HO_0; have HO242 := Aside0.mk hr34; clear hr34; replace q34 := eq_true q34; clear hlx34))
              go_ret
              exact ⟨_, by first | rfl | (simp [errW_none, errW_some] <;> rfl) | (simp [*, errW_none, errW_some] <;> rfl), by (with_reducible repeat (first | apply Kd.R_alloc | apply Kd.R_drewN | apply Kd.R_drew)); exact HO242.out, hbg_, by repeat (first | (with_reducible first | exact HK.out | apply Kept.alloc | apply Kept.drewN | apply Kept.drew | refine Kept.setCell ?_ (.inr GW2.out) _) | exact HK.out)⟩
            · rw [if_neg c29] at H
              exact absurd H (by simp)
          · rw [if_neg c28] at H
            exact absurd H (by simp)

/-! ### impl_board: function 99 -/
mutual
def impl_board.l0 : Nat → Int → List (S41) → Int → Int → Option ((List (S41)))
  | 0, _, _, _, _ => none
  | k + 1, x1, x5, x9, x10 => if x10 < x9 then (impl_board.l1 k x1 x5 x10 x9 x10 x1 0) else (some x5)
def impl_board.l1 : Nat → Int → List (S41) → Int → Int → Int → Int → Int → Option ((List (S41)))
  | 0, _, _, _, _, _, _, _ => none
  | k + 1, x1, x5, x6, x9, x10, x13, x14 => if x14 < x13 then (if x5.length < 8796093022208 then (impl_board.l1 k x1 (x5 ++ [(⟨x6, x14⟩ : S41)]) x6 x9 x10 x13 (wrap64 (x14 + 1))) else (none)) else (impl_board.l0 k x1 x5 x9 (wrap64 (x10 + 1)))
end
def impl_board.f (k : Nat) (a0 : Int) (a1 : Int) : Option ((List (S41))) := impl_board.l0 k a1 (([] : List (S41))) a0 0
theorem impl_board.mono_l : ∀ k, (∀ y0 y1 y2 y3, LeO (impl_board.l0 k y0 y1 y2 y3) (impl_board.l0 (k + 1) y0 y1 y2 y3)) ∧ (∀ y0 y1 y2 y3 y4 y5 y6, LeO (impl_board.l1 k y0 y1 y2 y3 y4 y5 y6) (impl_board.l1 (k + 1) y0 y1 y2 y3 y4 y5 y6))
  | 0 => ⟨fun _ _ _ _ r h => by simp [impl_board.l0] at h, fun _ _ _ _ _ _ _ r h => by simp [impl_board.l1] at h⟩
  | k + 1 => by
    obtain ⟨ih0, ih1⟩ := impl_board.mono_l k
    refine ⟨?_, ?_⟩
    · intro y0 y1 y2 y3
      unfold impl_board.l0
      repeat' first
      | (with_reducible exact ih0 _ _ _ _)
      | (with_reducible exact ih1 _ _ _ _ _ _ _)
      | (with_reducible exact LeO.refl _)
      | (with_reducible exact LeO.none _)
      | (with_reducible refine LeO.ite ?_ ?_)
      | (with_reducible refine LeO.bind ?_ (fun _ => ?_))
      | exact ih0 _ _ _ _
      | exact ih1 _ _ _ _ _ _ _
      | exact LeO.none _
      | refine LeO.ite ?_ ?_
      | refine LeO.bind ?_ (fun _ => ?_)
    · intro y0 y1 y2 y3 y4 y5 y6
      unfold impl_board.l1
      repeat' first
      | (with_reducible exact ih0 _ _ _ _)
      | (with_reducible exact ih1 _ _ _ _ _ _ _)
      | (with_reducible exact LeO.refl _)
      | (with_reducible exact LeO.none _)
      | (with_reducible refine LeO.ite ?_ ?_)
      | (with_reducible refine LeO.bind ?_ (fun _ => ?_))
      | exact ih0 _ _ _ _
      | exact ih1 _ _ _ _ _ _ _
      | exact LeO.none _
      | refine LeO.ite ?_ ?_
      | refine LeO.bind ?_ (fun _ => ?_)
theorem impl_board.mono : ∀ a0 a1 k, LeO (impl_board.f k a0 a1) (impl_board.f (k + 1) a0 a1) := by
  intro a0 a1 k
  obtain ⟨ih0, ih1⟩ := impl_board.mono_l k
  unfold impl_board.f
  repeat' first
      | (with_reducible exact ih0 _ _ _ _)
      | (with_reducible exact ih1 _ _ _ _ _ _ _)
      | (with_reducible exact LeO.refl _)
      | (with_reducible exact LeO.none _)
      | (with_reducible refine LeO.ite ?_ ?_)
      | (with_reducible refine LeO.bind ?_ (fun _ => ?_))
      | exact ih0 _ _ _ _
      | exact ih1 _ _ _ _ _ _ _
      | exact LeO.none _
      | refine LeO.ite ?_ ?_
      | refine LeO.bind ?_ (fun _ => ?_)
set_option maxHeartbeats 8000000 in
set_option maxRecDepth 100000 in
theorem impl_board.calls (k : Nat) (a0 : Int) (a1 : Int) (r : List (S41)) (w : World) (h : impl_board.f k a0 a1 = some r) :
    Calls Try.prog 99 #[.int .i64 a0, .int .i64 a1] w fun e w' => ∃ v0_ : Value, e = .returned (v0_) ∧ Kd.R k41 41 w' w.heap.size (fun _ => True) v0_ r ∧ Below w.heap.size w w' := by
  have hu41 := Try.underlying41
  have HB := Aside0.mk (Below.refl w.heap.size w)
  have H : (impl_board.l0 k a1 (([] : List (S41))) a0 0) = some r := h
  clear h
  obtain ⟨y243, hy243⟩ : ∃ y_ : List (S41), y_ = (([] : List (S41))) := ⟨_, rfl⟩
  replace H : (impl_board.l0 k a1 y243 a0 0) = some r := by first | (rw [hy243]; with_reducible exact H) | (have H2_ := (Option.bind_some _ _).symm.trans H; rw [hy243]; with_reducible exact H2_) | (have H2_ := (Option.bind_some _ _).symm.trans H; with_reducible exact H2_) | with_reducible exact H | (rw [hy243]; exact H) | exact H
  have Ny243 := Aside0.mk hy243
  clear hy243
  have H' := Aside0.mk H
  clear H
  go_enter Try.func99, Try.ntmps99
  go_wp2_with (first | ((with_reducible refine gate_dst (N := 8) rfl ?_); refine Kd.R_lit k41 _ 41 ?hg (N := 8) ?hd (xs := ([] : List (S41))) (inner := []) (ok := fun _ => True) (okp := fun _ => True) ?hr ?hp (fun _ hk => hk) trivial (Below.refl _ _) (Nat.le_refl _) (by simp) ?_; (case hd => rfl); (case hg => rfl); (case hr => first | (go_simp; done) | (go_simp; rfl)); (case hp => exact (Reps.none _ _)); intro v244 w3 ho4 hb hg_ hnew_; clear hg_ hnew_; (first | rw [← Ny243.out] at ho4 | (simp only [Int.reduceToNat] at ho4; rw [← Ny243.out] at ho4)); have n0_ := Aside0.mk (Kd.R_lower ho4 (below_size (hb_))); have n1_ := Aside0.mk (below_step (hb_) hb); clear HB; have HO245 := n0_; have HB := n1_; clear n0_ n1_; clear hb ho4))
  go_loopg [5, 10] k (fun kq v5 v10 w' => ∃ (x5_1 : List (S41)) (x10_1 : Int), v10 = .int .i64 x10_1 ∧ Aside0 (impl_board.l0 kq a1 x5_1 a0 x10_1 = some r) ∧ Aside0 (kq ≤ k) ∧ Aside0 (Kd.R k41 41 w' w.heap.size (fun _ => True) v5 x5_1) ∧ Aside0 (Below w.heap.size w w'))
  case atStart => exact ⟨(y243), (0), (by first | rfl | (simp; done) | (simp [*]; done)), H', ⟨Nat.le_refl _⟩, ⟨rk_ HO245.out⟩, ⟨hb_⟩⟩
  case round =>
    clear H'
    try clear p2
    obtain ⟨x5_1, x10_1, rfl, HA, HK1, HO_5, HB⟩ := hrel
    cases gk with
    | zero => exact absurd HA.out (by simp [impl_board.l0])
    | succ k1 =>
      have H := HA.out
      clear HA
      simp only [impl_board.l0] at H
      by_cases c5 : x10_1 < a0
      · rw [if_pos c5] at H
        have c5b0 : decide (x10_1 < a0) = true := decide_eq_true c5
        clear c5
        have H' := Aside0.mk H
        clear H
        go_wp2
        go_loopg [5, 14] k1 (fun kq v5 v14 w' => ∃ (x5_2 : List (S41)) (x14_2 : Int), v14 = .int .i64 x14_2 ∧ Aside0 (impl_board.l1 kq a1 x5_2 x10_1 a0 x10_1 a1 x14_2 = some r) ∧ Aside0 (kq ≤ k1) ∧ Aside0 (Kd.R k41 41 w' w.heap.size (fun _ => True) v5 x5_2) ∧ Aside0 (Below w.heap.size w w'))
        case atStart => exact ⟨(x5_1), (0), (by first | rfl | (simp; done) | (simp [*]; done)), H', ⟨Nat.le_refl _⟩, ⟨rk_ HO_5.out⟩, ⟨hb_⟩⟩
        case round =>
          clear H'
          try clear p2
          try clear c5
          try clear c5b0
          try clear p2
          obtain ⟨x5_2, x14_2, rfl, HA, HK2, HO_5, HB⟩ := hrel
          cases gk with
          | zero => exact absurd HA.out (by simp [impl_board.l1])
          | succ k2 =>
            have H := HA.out
            clear HA
            simp only [impl_board.l1] at H
            by_cases c6 : x14_2 < a1
            · rw [if_pos c6] at H
              have c6b0 : decide (x14_2 < a1) = true := decide_eq_true c6
              clear c6
              by_cases c7 : x5_2.length < 8796093022208
              · rw [if_pos c7] at H
                have LMc7 := Aside0.mk c7
                clear c7
                obtain ⟨y246, hy246⟩ : ∃ y_ : List (S41), y_ = (x5_2 ++ [(⟨x10_1, x14_2⟩ : S41)]) := ⟨_, rfl⟩
                replace H : (impl_board.l1 k2 a1 y246 x10_1 a0 x10_1 a1 (wrap64 (x14_2 + 1))) = some r := by first | (rw [hy246]; with_reducible exact H) | (have H2_ := (Option.bind_some _ _).symm.trans H; rw [hy246]; with_reducible exact H2_) | (have H2_ := (Option.bind_some _ _).symm.trans H; with_reducible exact H2_) | with_reducible exact H | (rw [hy246]; exact H) | exact H
                have Ny246 := Aside0.mk hy246
                clear hy246
                have H' := Aside0.mk H
                clear H
                go_wp2_with (first | ((with_reducible refine gate_builtin (b := .append) (xs := #[.tmp 17, .tmp 21]) rfl ?_); at_builtin; refine Kd.R_append k41 (w0 := w) w.heap.size rfl (.tmp 17) (.tmp 21) 86 41 (.agg #[(.int .i64 0), (.int .i64 0)]) 16 rfl Try.underlying86 info41 rfl (by decide) (by omega) u5 x5_2 (⟨x10_1, x14_2⟩ : S41) [.int .i64 x10_1, .int .i64 x14_2] (fun _ => True) (fun _ => False) rfl rfl ?aP (fun _ hk => hk.elim) ?aF ?aO ?aB ?aS ?aL ?_; (case aP => exact k41_mkM _ _ _ (⟨x10_1, x14_2⟩ : S41)); (case aB => exact (hb_)); (case aF => exact (fun _ _ => trivial)); (case aO => exact (rk_ HO_5.out)); (case aS => exact (below_size (hb_))); (case aL => have := LMc7.out; omega); intro v247 w8 ho hb hg hat; rw [← Ny246.out] at ho; have n0_ := Aside0.mk (hb); have n1_ := Aside0.mk (ho); clear HB; clear HO_5; have HB := n0_; have HO248 := n1_; clear n0_ n1_; clear ho hb hg hat))
                go_roundg k2
                case measure => have := HK1.out; have := HK2.out; omega
                case rel => exact ⟨(y246), (wrap64 (x14_2 + 1)), (by first | rfl | (simp; done) | (simp [*]; done)), H', ⟨by have := HK1.out; have := HK2.out; omega⟩, ⟨rk_ HO248.out⟩, ⟨hb_⟩⟩
              · rw [if_neg c7] at H
                exact absurd H (by simp)
            · rw [if_neg c6] at H
              have c6b0 : decide (x14_2 < a1) = false := decide_eq_false c6
              clear c6
              have H' := Aside0.mk H
              clear H
              go_wp2
              go_roundg k2
              case measure => have := HK1.out; have := HK2.out; omega
              case rel => exact ⟨(x5_2), (wrap64 (x10_1 + 1)), (by first | rfl | (simp; done) | (simp [*]; done)), H', ⟨by have := HK1.out; have := HK2.out; omega⟩, ⟨rk_ HO_5.out⟩, ⟨hb_⟩⟩
      · rw [if_neg c5] at H
        have c5b0 : decide (x10_1 < a0) = false := decide_eq_false c5
        clear c5
        obtain rfl := Option.some.inj H
        go_wp2
        go_ret
        exact ⟨_, by first | rfl | (simp [errW_none, errW_some] <;> rfl) | (simp [*, errW_none, errW_some] <;> rfl), by (with_reducible repeat (first | apply Kd.R_alloc | apply Kd.R_drewN | apply Kd.R_drew)); exact HO_5.out, hb_⟩

end Go.Proofs.Ytlhiificglpgkaa.MK
