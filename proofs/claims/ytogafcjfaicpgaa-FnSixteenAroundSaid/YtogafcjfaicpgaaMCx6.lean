-- Written by a program of this session (wip/print/myprint.py) over the kit's printer; Lean checks it.
import Derived.Test.YtogafcjfaicpgaaMCx0
import Derived.Test.YtogafcjfaicpgaaMCx2
import Derived.Test.YtogafcjfaicpgaaMCx3
import Derived.Test.YtogafcjfaicpgaaMCx5
namespace Go.Proofs.Ytogafcjfaicpgaa.MC
open Go.RowKit Go.Proofs.YtogafcjfaicpgaaW.PrintWords Go.Proofs.YtogafcjfaicpgaaW.PrintLast Go.Proofs.YtogafcjfaicpgaaW.PrintMore Go.Proofs.YtogafcjfaicpgaaV
attribute [local go_sem] max2_int min2_int max_two min_two max_three min_three max_four min_four   -- for this text's walks alone
set_option linter.unusedVariables false
set_option linter.unusedSimpArgs false

/-! ### the words for rows of rows in a variable -/
/-- What is told of the world that a region begins in. -/
theorem seen_ {P : Program} {ops : Array Oper} {Q : Exit → Act → World → Prop} {S : World → Prop} {ds : List Nat} {n : Nat} {l : Array Bool} {a : Act} {w : World} {F : World → Prop} (hF : F w) (h : Aside0 (F w) → wpAnyLast P .any ops Q S ds n l a w) : wpAnyLast P .any ops Q S ds n l a w := h ⟨hF⟩
theorem infoS33 : (Try.prog.info? 33).map (fun i => (i.zero, i.size, i.bytes)) = some (some (.slice none 0 0), 1, 24) := by kernel_rfl
/-- Rows of rows. -/
abbrev kk33 : Kd (List Int) := Kd.slice 3 (Kd.int .i64)
/-- The state of a slice of rows in a variable's block g, begun at w with the slice u, now v, which tells xs. -/
structure RowsSt (w W : World) (g base : Nat) (u v : Value) (xs : List (List Int)) : Prop where
  blk : W.heap[g]? = some (.cells #[v] 22 (0, 0))
  row : Kd.S kk33 33 W base (fun _ => True) v xs
  keep : KeepBut w W g u.ownBlock
  eff : Below 0 w W
  at_ : v.ownBlock = u.ownBlock ∨ ∃ b, v.ownBlock = some b ∧ w.heap.size ≤ b
theorem RowsSt.below {w W W' : World} {g base : Nat} {u v : Value} {xs : List (List Int)} (h : RowsSt w W g base u v xs) (hb : Below W.heap.size W W') : RowsSt w W' g base u v xs :=
  ⟨blk_below h.blk hb, Kd.S_below h.row hb, h.keep.trans (KeepBut.of_below hb g u.ownBlock) (.inl rfl), h.eff.trans ⟨hb.os, hb.tape, hb.output, hb.size, fun k hk => absurd hk (Nat.not_lt_zero k)⟩, h.at_⟩
theorem RowsSt.then_ {w W W' : World} {g base : Nat} {u v v' : Value} {xs ys : List (List Int)} (h : RowsSt w W g base u v xs) (k : RowsSt W W' g base v v' ys) : RowsSt w W' g base u v' ys :=
  ⟨k.blk, k.row, h.keep.trans k.keep h.at_, h.eff.trans k.eff, by
    rcases k.at_ with e | ⟨b, e, hb⟩
    · rw [e]; exact h.at_
    · exact .inr ⟨b, e, Nat.le_trans h.keep.1 hb⟩⟩
theorem RowsSt.self {w W : World} {g base : Nat} {u v : Value} {xs : List (List Int)} (h : RowsSt w W g base u v xs) : RowsSt W W g base v v xs :=
  ⟨h.blk, h.row, KeepBut.refl _ _ _, Below.refl _ _, .inl rfl⟩
/-- The slice appended to, and put back into its variable. -/
theorem RowsSt.push {w W w1 : World} {g base : Nat} {u v v1 : Value} {xs ys : List (List Int)} (h : RowsSt w W g base u v xs) (ho : Kd.S kk33 33 w1 base (fun _ => True) v1 ys) (hb : Below 0 W w1) (hg : W.grownBy w1 v.ownBlock) (hat : v1.ownBlock = v.ownBlock ∨ ∃ b, v1.ownBlock = some b ∧ W.heap.size ≤ b) : RowsSt w (w1.setCell ⟨g, 0, none⟩ v1) g base u v1 ys := by
  have hne : some g ≠ v.ownBlock := Kd.S_ne h.row h.blk (by decide)
  have hb1 : w1.heap[g]? = some (.cells #[v] 22 (0, 0)) := blk_grown h.blk hg hne
  refine ⟨blk_set hb1 0 v1, Kd.S_set ho hb1 (by decide) 0 v1, (h.keep.trans (KeepBut.of_grown hg g) h.at_).set_ 0 v1, h.eff.trans (hb.trans ⟨rfl, rfl, rfl, by simp [World.setCell], fun k hk => absurd hk (Nat.not_lt_zero k)⟩), ?_⟩
  rcases hat with e | ⟨b, e, hb⟩
  · rw [e]; exact h.at_
  · exact .inr ⟨b, e, Nat.le_trans h.keep.1 hb⟩
/-- A row of one's own of numbers stays read whatever the state's calls turn. -/
theorem RowsSt.foot {w W : World} {g base b0 n c : Nat} {u v : Value} {xs : List (List Int)} {ok : Nat → Prop} {A : Option Addr} {ys : List Int} (h : RowsSt w W g base u v xs) (hr : (Kd.int .i64).R 3 W b0 ok (.slice A n c) ys) : ∀ W', KeepBut W W' g v.ownBlock → (Kd.int .i64).C W' A ys.length ys := fun W' hk => by
  have h1 := Kd.R_types hr h.blk (by decide)
  have h2 := Kd.R_apart' h1 (Kd.S_typed h.row) (by decide)
  exact (Kd.R_reads' (Kd.R_step h2 (w1 := W') (fun k hk' hlt => hk.2 k hlt hk'.1.2 hk'.2))).2.2
/-! ### spec_duAll: function 24 (a contract by hand: the pointer's slice as a state) -/
mutual
def spec_duAll.j0 : Nat → Int → List Int → Int → (List (List Int)) → Int → Option ((List (List Int)))
  | 0, _, _, _, _, _ => none
  | k + 1, x0, x1, x2, x7, x8 => spec_duAll.l0 k x0 x1 x2 x7 x8 x8
def spec_duAll.l0 : Nat → Int → List Int → Int → (List (List Int)) → Int → Int → Option ((List (List Int)))
  | 0, _, _, _, _, _, _ => none
  | k + 1, x0, x1, x2, x7, x8, x9 => if x9 ≤ 2 then (if (x1.length : Int) = 0 then (spec_duAll.j2 k x0 x1 x2 x7 x8 x9 (wrap64 ((wrap64 (x0 - 1)) - (x1.length : Int))) x9) else (spec_duAll.j2 k x0 x1 x2 x7 x8 x9 (wrap64 ((wrap64 (x0 - 1)) - (x1.length : Int))) x8)) else (some x7)
def spec_duAll.j2 : Nat → Int → List Int → Int → (List (List Int)) → Int → Int → Int → Int → Option ((List (List Int)))
  | 0, _, _, _, _, _, _, _, _ => none
  | k + 1, x0, x1, x2, x7, x8, x9, x10, x11 => if (wrap64 ((wrap64 (x2 + x9)) + (wrap64 (2 * x10)))) < (wrap64 ((wrap64 (3 * x0)) - 12)) then (spec_duAll.j3 k x0 x1 x2 x7 x8 x9 true) else (spec_duAll.j3 k x0 x1 x2 x7 x8 x9 (decide ((wrap64 ((wrap64 (x2 + x9)) + (wrap64 (x10 * x11)))) > (wrap64 ((wrap64 (3 * x0)) - 12)))))
def spec_duAll.j3 : Nat → Int → List Int → Int → (List (List Int)) → Int → Int → Bool → Option ((List (List Int)))
  | 0, _, _, _, _, _, _, _ => none
  | k + 1, x0, x1, x2, x7, x8, x9, x83 => if x83 = true then (spec_duAll.l0 k x0 x1 x2 x7 x8 (wrap64 (x9 + 1))) else ((spec_l1Own.f x1).bind fun t158 => (if t158.length < 17592186044416 then ((spec_duAll.f k x0 (t158 ++ [x9]) (wrap64 (x2 + x9)) x7).bind fun t164 => (spec_duAll.l0 k x0 x1 x2 t164 x8 (wrap64 (x9 + 1)))) else (none)))
def spec_duAll.f : Nat → Int → List Int → Int → (List (List Int)) → Option ((List (List Int)))
  | 0, _, _, _, _ => none
  | k + 1, a0, l1, a2, a3 => if (l1.length : Int) = a0 then (if a2 = (wrap64 ((wrap64 (3 * a0)) - 12)) then ((spec_duIs.f k l1).bind fun t149 => (if t149 = true then ((spec_duLeast.f k l1).bind fun t150 => ((spec_l1Same.f k t150 l1).bind fun t153 => (if t153 = true then ((spec_l1Own.f l1).bind fun t154 => (if a3.length < 5000000000000 then (some (a3 ++ [t154])) else (none))) else (some a3)))) else (some a3))) else (some a3)) else (if (l1.length : Int) > 0 then (if 0 < (l1.length : Int) then (spec_duAll.j0 k a0 l1 a2 a3 (rd l1 0)) else (none)) else (spec_duAll.j0 k a0 l1 a2 a3 (-6)))
end
theorem spec_duAll.mono_l : ∀ k, (∀ y0 y1 y2 y3, LeO (spec_duAll.f k y0 y1 y2 y3) (spec_duAll.f (k + 1) y0 y1 y2 y3)) ∧ (∀ y0 y1 y2 y3 y4, LeO (spec_duAll.j0 k y0 y1 y2 y3 y4) (spec_duAll.j0 (k + 1) y0 y1 y2 y3 y4)) ∧ (∀ y0 y1 y2 y3 y4 y5, LeO (spec_duAll.l0 k y0 y1 y2 y3 y4 y5) (spec_duAll.l0 (k + 1) y0 y1 y2 y3 y4 y5)) ∧ (∀ y0 y1 y2 y3 y4 y5 y6 y7, LeO (spec_duAll.j2 k y0 y1 y2 y3 y4 y5 y6 y7) (spec_duAll.j2 (k + 1) y0 y1 y2 y3 y4 y5 y6 y7)) ∧ (∀ y0 y1 y2 y3 y4 y5 y6, LeO (spec_duAll.j3 k y0 y1 y2 y3 y4 y5 y6) (spec_duAll.j3 (k + 1) y0 y1 y2 y3 y4 y5 y6))
  | 0 => ⟨fun _ _ _ _ r h => by simp [spec_duAll.f] at h, fun _ _ _ _ _ r h => by simp [spec_duAll.j0] at h, fun _ _ _ _ _ _ r h => by simp [spec_duAll.l0] at h, fun _ _ _ _ _ _ _ _ r h => by simp [spec_duAll.j2] at h, fun _ _ _ _ _ _ _ r h => by simp [spec_duAll.j3] at h⟩
  | k + 1 => by
    obtain ⟨ih0, ih1, ih2, ih3, ih4⟩ := spec_duAll.mono_l k
    refine ⟨?_, ?_, ?_, ?_, ?_⟩
    · intro y0 y1 y2 y3
      unfold spec_duAll.f
      repeat' first
      | (with_reducible exact ih0 _ _ _ _)
      | (with_reducible exact ih1 _ _ _ _ _)
      | (with_reducible exact ih2 _ _ _ _ _ _)
      | (with_reducible exact ih3 _ _ _ _ _ _ _ _)
      | (with_reducible exact ih4 _ _ _ _ _ _ _)
      | (with_reducible exact spec_duIs.mono _ _)
      | (with_reducible exact spec_duLeast.mono _ _)
      | (with_reducible exact spec_l1Same.mono _ _ _)
      | (with_reducible exact LeO.refl _)
      | (with_reducible exact LeO.none _)
      | (with_reducible refine LeO.ite ?_ ?_)
      | (with_reducible refine LeO.bind ?_ (fun _ => ?_))
      | exact ih0 _ _ _ _
      | exact ih1 _ _ _ _ _
      | exact ih2 _ _ _ _ _ _
      | exact ih3 _ _ _ _ _ _ _ _
      | exact ih4 _ _ _ _ _ _ _
      | exact spec_duIs.mono _ _
      | exact spec_duLeast.mono _ _
      | exact spec_l1Same.mono _ _ _
      | exact LeO.none _
      | refine LeO.ite ?_ ?_
      | refine LeO.bind ?_ (fun _ => ?_)
    · intro y0 y1 y2 y3 y4
      unfold spec_duAll.j0
      repeat' first
      | (with_reducible exact ih0 _ _ _ _)
      | (with_reducible exact ih1 _ _ _ _ _)
      | (with_reducible exact ih2 _ _ _ _ _ _)
      | (with_reducible exact ih3 _ _ _ _ _ _ _ _)
      | (with_reducible exact ih4 _ _ _ _ _ _ _)
      | (with_reducible exact spec_duIs.mono _ _)
      | (with_reducible exact spec_duLeast.mono _ _)
      | (with_reducible exact spec_l1Same.mono _ _ _)
      | (with_reducible exact LeO.refl _)
      | (with_reducible exact LeO.none _)
      | (with_reducible refine LeO.ite ?_ ?_)
      | (with_reducible refine LeO.bind ?_ (fun _ => ?_))
      | exact ih0 _ _ _ _
      | exact ih1 _ _ _ _ _
      | exact ih2 _ _ _ _ _ _
      | exact ih3 _ _ _ _ _ _ _ _
      | exact ih4 _ _ _ _ _ _ _
      | exact spec_duIs.mono _ _
      | exact spec_duLeast.mono _ _
      | exact spec_l1Same.mono _ _ _
      | exact LeO.none _
      | refine LeO.ite ?_ ?_
      | refine LeO.bind ?_ (fun _ => ?_)
    · intro y0 y1 y2 y3 y4 y5
      unfold spec_duAll.l0
      repeat' first
      | (with_reducible exact ih0 _ _ _ _)
      | (with_reducible exact ih1 _ _ _ _ _)
      | (with_reducible exact ih2 _ _ _ _ _ _)
      | (with_reducible exact ih3 _ _ _ _ _ _ _ _)
      | (with_reducible exact ih4 _ _ _ _ _ _ _)
      | (with_reducible exact spec_duIs.mono _ _)
      | (with_reducible exact spec_duLeast.mono _ _)
      | (with_reducible exact spec_l1Same.mono _ _ _)
      | (with_reducible exact LeO.refl _)
      | (with_reducible exact LeO.none _)
      | (with_reducible refine LeO.ite ?_ ?_)
      | (with_reducible refine LeO.bind ?_ (fun _ => ?_))
      | exact ih0 _ _ _ _
      | exact ih1 _ _ _ _ _
      | exact ih2 _ _ _ _ _ _
      | exact ih3 _ _ _ _ _ _ _ _
      | exact ih4 _ _ _ _ _ _ _
      | exact spec_duIs.mono _ _
      | exact spec_duLeast.mono _ _
      | exact spec_l1Same.mono _ _ _
      | exact LeO.none _
      | refine LeO.ite ?_ ?_
      | refine LeO.bind ?_ (fun _ => ?_)
    · intro y0 y1 y2 y3 y4 y5 y6 y7
      unfold spec_duAll.j2
      repeat' first
      | (with_reducible exact ih0 _ _ _ _)
      | (with_reducible exact ih1 _ _ _ _ _)
      | (with_reducible exact ih2 _ _ _ _ _ _)
      | (with_reducible exact ih3 _ _ _ _ _ _ _ _)
      | (with_reducible exact ih4 _ _ _ _ _ _ _)
      | (with_reducible exact spec_duIs.mono _ _)
      | (with_reducible exact spec_duLeast.mono _ _)
      | (with_reducible exact spec_l1Same.mono _ _ _)
      | (with_reducible exact LeO.refl _)
      | (with_reducible exact LeO.none _)
      | (with_reducible refine LeO.ite ?_ ?_)
      | (with_reducible refine LeO.bind ?_ (fun _ => ?_))
      | exact ih0 _ _ _ _
      | exact ih1 _ _ _ _ _
      | exact ih2 _ _ _ _ _ _
      | exact ih3 _ _ _ _ _ _ _ _
      | exact ih4 _ _ _ _ _ _ _
      | exact spec_duIs.mono _ _
      | exact spec_duLeast.mono _ _
      | exact spec_l1Same.mono _ _ _
      | exact LeO.none _
      | refine LeO.ite ?_ ?_
      | refine LeO.bind ?_ (fun _ => ?_)
    · intro y0 y1 y2 y3 y4 y5 y6
      unfold spec_duAll.j3
      repeat' first
      | (with_reducible exact ih0 _ _ _ _)
      | (with_reducible exact ih1 _ _ _ _ _)
      | (with_reducible exact ih2 _ _ _ _ _ _)
      | (with_reducible exact ih3 _ _ _ _ _ _ _ _)
      | (with_reducible exact ih4 _ _ _ _ _ _ _)
      | (with_reducible exact spec_duIs.mono _ _)
      | (with_reducible exact spec_duLeast.mono _ _)
      | (with_reducible exact spec_l1Same.mono _ _ _)
      | (with_reducible exact LeO.refl _)
      | (with_reducible exact LeO.none _)
      | (with_reducible refine LeO.ite ?_ ?_)
      | (with_reducible refine LeO.bind ?_ (fun _ => ?_))
      | exact ih0 _ _ _ _
      | exact ih1 _ _ _ _ _
      | exact ih2 _ _ _ _ _ _
      | exact ih3 _ _ _ _ _ _ _ _
      | exact ih4 _ _ _ _ _ _ _
      | exact spec_duIs.mono _ _
      | exact spec_duLeast.mono _ _
      | exact spec_l1Same.mono _ _ _
      | exact LeO.none _
      | refine LeO.ite ?_ ?_
      | refine LeO.bind ?_ (fun _ => ?_)
theorem spec_duAll.mono : ∀ a0 a1 a2 a3 k, LeO (spec_duAll.f k a0 a1 a2 a3) (spec_duAll.f (k + 1) a0 a1 a2 a3) := by
  intro a0 a1 a2 a3 k
  obtain ⟨ih0, ih1, ih2, ih3, ih4⟩ := spec_duAll.mono_l k
  exact ih0 a0 a1 a2 a3
def spec_duAll.T2 : Bool × List (List Nat × List Nat) := (true, [([], []), ([], []), ([1], [1]), ([2], [2]), ([], []), ([4], [4]), ([5], [5]), ([3, 6, 5], [3, 6]), ([0, 0, 1, 2, 3, 4, 5, 6, 7], [0]), ([8, 7, 7, 0, 1, 2, 3, 4, 5, 6, 7], [7, 8])])
def spec_duAll.B2 : List Nat := [0, 0, 2, 6, 0, 16, 48, 126, 255, 511]
theorem spec_duAll.tab2 : rtab .any (opsOf Try.f24 2) = spec_duAll.T2 := by kernel_rfl
theorem spec_duAll.bits2 : waitsOk spec_duAll.T2.2 spec_duAll.B2 = true := by kernel_rfl
set_option maxHeartbeats 8000000 in
set_option maxRecDepth 100000 in
theorem spec_duAll.calls (k : Nat) : ∀ (a0 : Int) (A1 : Option Addr) (c1 : Nat) (l1 : List Int) (a2 : Int) (g base : Nat) (vO0 : Value) (a3 r : List (List Int)) (w : World) (hr1 : ∀ W', KeepBut w W' g vO0.ownBlock → Kd.C (Kd.int .i64) W' A1 l1.length l1) (hc1 : l1.length ≤ c1) (hbase : base ≤ w.heap.size) (hst : RowsSt w w g base vO0 vO0 a3) (h : spec_duAll.f k a0 l1 a2 a3 = some r),
    Calls Try.prog 24 #[.int .i64 a0, .slice A1 l1.length c1, .int .i64 a2, .pointer (some ⟨g, 0, none⟩)] w fun e w' => e = .returned (.tuple #[]) ∧ ∃ vO' : Value, RowsSt w w' g base vO0 vO' r := by
  induction k using Nat.strongRecOn with
  | _ k ih =>
  intro a0 A1 c1 l1 a2 g base vO0 a3 r w hr1 hc1 hbase hst h
  cases k with
  | zero => exact absurd h (by simp [spec_duAll.f])
  | succ k =>
  simp only [spec_duAll.f] at h
  have HF1 := Aside0.mk hr1
  have HC1 := Aside0.mk hc1
  have HBS := Aside0.mk hbase
  have HST := Aside0.mk hst
  have HR1 := Aside0.mk (hr1 w (KeepBut.refl _ _ _))
  clear hr1 hc1 hbase hst
  have ih := Aside0.mk ih
  have HB := Aside0.mk (Below.refl w.heap.size w)
  have H : (if (l1.length : Int) = a0 then (if a2 = (wrap64 ((wrap64 (3 * a0)) - 12)) then ((spec_duIs.f k l1).bind fun t149 => (if t149 = true then ((spec_duLeast.f k l1).bind fun t150 => ((spec_l1Same.f k t150 l1).bind fun t153 => (if t153 = true then ((spec_l1Own.f l1).bind fun t154 => (if a3.length < 5000000000000 then (some (a3 ++ [t154])) else (none))) else (some a3)))) else (some a3))) else (some a3)) else (if (l1.length : Int) > 0 then (if 0 < (l1.length : Int) then (spec_duAll.j0 k a0 l1 a2 a3 (rd l1 0)) else (none)) else (spec_duAll.j0 k a0 l1 a2 a3 (-6)))) = some r := h
  clear h
  by_cases c5 : (l1.length : Int) = a0
  · rw [if_pos c5] at H
    have c5b0 : ((l1.length : Int) == a0) = true := beq_iff_eq.mpr c5
    have c5b1 : ((l1.length : Int) != a0) = false := bne_eq_false_iff_eq.mpr c5
    clear c5
    by_cases c6 : a2 = (wrap64 ((wrap64 (3 * a0)) - 12))
    · rw [if_pos c6] at H
      have c6b0 : (a2 == (wrap64 ((wrap64 (3 * a0)) - 12))) = true := beq_iff_eq.mpr c6
      have c6b1 : (a2 != (wrap64 ((wrap64 (3 * a0)) - 12))) = false := bne_eq_false_iff_eq.mpr c6
      clear c6
      replace H := Option.bind_eq_some_iff.mp H
      obtain ⟨t149, A70, H⟩ := H
      replace H : (if t149 = true then ((spec_duLeast.f k l1).bind fun t150 => ((spec_l1Same.f k t150 l1).bind fun t153 => (if t153 = true then ((spec_l1Own.f l1).bind fun t154 => (if a3.length < 5000000000000 then (some (a3 ++ [t154])) else (none))) else (some a3)))) else (some a3)) = some r := H
      have A7 := Aside0.mk A70
      clear A70
      by_cases c8 : t149 = true
      · subst c8
        have H1 : ((spec_duLeast.f k l1).bind fun t150 => ((spec_l1Same.f k t150 l1).bind fun t153 => (if t153 = true then ((spec_l1Own.f l1).bind fun t154 => (if a3.length < 5000000000000 then (some (a3 ++ [t154])) else (none))) else (some a3)))) = some r := by rw [if_pos rfl] at H; exact H
        clear H
        have H := H1
        clear H1
        replace H := Option.bind_eq_some_iff.mp H
        obtain ⟨t150, A90, H⟩ := H
        replace H : ((spec_l1Same.f k t150 l1).bind fun t153 => (if t153 = true then ((spec_l1Own.f l1).bind fun t154 => (if a3.length < 5000000000000 then (some (a3 ++ [t154])) else (none))) else (some a3))) = some r := H
        have A9 := Aside0.mk A90
        clear A90
        replace H := Option.bind_eq_some_iff.mp H
        obtain ⟨t153, A100, H⟩ := H
        replace H : (if t153 = true then ((spec_l1Own.f l1).bind fun t154 => (if a3.length < 5000000000000 then (some (a3 ++ [t154])) else (none))) else (some a3)) = some r := H
        have A10 := Aside0.mk A100
        clear A100
        by_cases c11 : t153 = true
        · subst c11
          have H1 : ((spec_l1Own.f l1).bind fun t154 => (if a3.length < 5000000000000 then (some (a3 ++ [t154])) else (none))) = some r := by rw [if_pos rfl] at H; exact H
          clear H
          have H := H1
          clear H1
          replace H := Option.bind_eq_some_iff.mp H
          obtain ⟨t154, A120, H⟩ := H
          have A12 := Aside0.mk A120
          clear A120
          by_cases c13 : a3.length < 5000000000000
          · rw [if_pos c13] at H
            have c13 := Aside0.mk c13
            obtain rfl := Option.some.inj H
            clear H
            go_enter Try.func24, Try.ntmps24
            go_wp2_with (first | (go_at_call 37; (with_reducible refine (spec_duIs.calls k _ _ l1 true _ ?side1 ?side2 A7.out).mono ?_); (case side1 => repeat (first | exact HR1.out | (with_reducible refine Kd.C_alloc ?_ _) | (with_reducible refine Kd.C_drewN ?_ _) | (with_reducible refine Kd.C_drew ?_))); (case side2 => exact HC1.out); rintro e w13 ⟨rfl, hb⟩; have n0_ := Aside0.mk (below_step (hb_) hb); clear HB; have HB := n0_; clear n0_; (try clear hb); (try clear hb2); (try clear hk); (try clear hi)) | (go_at_call 36; (with_reducible refine (spec_duLeast.calls k _ _ l1 t150 _ ?side1 ?side2 A9.out).mono ?_); (case side1 => repeat (first | exact (Kd.C_below HR1.out HB.out) | (with_reducible refine Kd.C_alloc ?_ _) | (with_reducible refine Kd.C_drewN ?_ _) | (with_reducible refine Kd.C_drew ?_))); (case side2 => exact HC1.out); rintro e w14 ⟨v151, rfl, ho0, hb⟩; have n0_ := Aside0.mk (Kd.R_lower ho0 (below_size (hb_))); have n1_ := Aside0.mk (below_step (hb_) hb); clear HB; have HO152 := n0_; have HB := n1_; clear n0_ n1_; (try clear hb); (try clear hb2); (try clear hk); (try clear hi); (try clear ho0); obtain ⟨Ao15, co15, eo15⟩ := Kd.R_slice HO152.out; subst eo15) | (go_at_call 38; (with_reducible refine (spec_l1Same.calls k _ _ t150 _ _ l1 true _ ?side1 ?side2 ?side3 ?side4 A10.out).mono ?_); (case side1 => repeat (first | exact (Kd.R_reads' HO152.out).2.2 | (with_reducible refine Kd.C_alloc ?_ _) | (with_reducible refine Kd.C_drewN ?_ _) | (with_reducible refine Kd.C_drew ?_))); (case side2 => exact (Kd.R_reads' HO152.out).2.1); (case side3 => repeat (first | exact (Kd.C_below HR1.out HB.out) | (with_reducible refine Kd.C_alloc ?_ _) | (with_reducible refine Kd.C_drewN ?_ _) | (with_reducible refine Kd.C_drew ?_))); (case side4 => exact HC1.out); rintro e w' ⟨rfl, ⟨nd, rfl⟩⟩))
            have HS1 := Aside0.mk (HST.out.below (hb_))
            obtain ⟨AoX, coX, eoX⟩ := Kd.R_slice (Kd.S_R HS1.out.row)
            subst eoX
            refine start_ (n := 10) (S := fun w' => w'.cell? ⟨g, 0, none⟩ = some (.slice AoX a3.length coX)) (ds := [9]) #[false, false, false, false, false, false, false, false, false, false] (by kernel_rfl) rfl rfl ((blk_cell HS1.out.blk 0).trans rfl) (fun hHeld => ?_); refine with_tabW spec_duAll.tab2 spec_duAll.bits2 (fun HT_ HW_ => ?_)
            refine seen_ (F := fun W_ => RowsSt w W_ g base (.slice AoX a3.length coX) (.slice AoX a3.length coX) a3 ∧ Below w.heap.size w W_) ⟨HS1.out.below (by repeat (first | exact Below.refl _ _ | apply below_alloc | apply pw_below_drewN | apply below_drew1)), hb_⟩ (fun HSB => ?_)
            clear HS1 HB
            have HS1 := Aside0.mk HSB.out.1
            have HB := Aside0.mk HSB.out.2
            clear HSB
            refine pure_ (i := 0) (N := some 31) (v := ?_) (a' := ?_) #[true, false, false, false, false, false, false, false, false, false] rfl rfl (any_of HT_.out (by kernel_rfl)) (fun _ _ _ h => h) (Or.inl ⟨by rfl, ?_⟩) ?_ ?_
            rotate_left
            · intro w'
              go_simp
              with_reducible rfl
            rotate_left
            · simp only [Act.put, sA, sB, sC, i64_w, i32_w]
              rfl
            refine pure_ (i := 1) (N := some 32) (v := ?_) (a' := ?_) #[true, true, false, false, false, false, false, false, false, false] rfl rfl (any_of HT_.out (by kernel_rfl)) (fun _ _ _ h => h) (Or.inl ⟨by rfl, ?_⟩) ?_ ?_
            rotate_left
            · intro w'
              go_simp
              with_reducible rfl
            rotate_left
            · simp only [Act.put, sA, sB, sC, i64_w, i32_w]
              rfl
            refine pure_ (i := 2) (N := some 33) (v := ?_) (a' := ?_) #[true, true, true, false, false, false, false, false, false, false] rfl rfl (any_of HT_.out (by kernel_rfl)) (fun _ _ _ h => h) (Or.inl ⟨by rfl, ?_⟩) ?_ ?_
            rotate_left
            · intro w'
              go_simp
              with_reducible rfl
            rotate_left
            · simp only [Act.put, sA, sB, sC, i64_w, i32_w]
              rfl
            refine take_ (i := 3) (N := some 34) (v := ?_) (a' := ?_) #[true, true, true, true, false, false, false, false, false, false] rfl rfl (take_ofW HT_.out HW_.out (by kernel_rfl)) (fun _ _ _ h => h) (Or.inl ⟨by rfl, ?_⟩) hHeld ?_ ?_
            rotate_left
            · rintro w' s0
              go_simp
              with_reducible rfl
            rotate_left
            · simp only [Act.put, sA, sB, sC, i64_w, i32_w]
              rfl
            refine pure_ (i := 4) (N := some 35) (v := ?_) (a' := ?_) #[true, true, true, true, true, false, false, false, false, false] rfl rfl (any_of HT_.out (by kernel_rfl)) (fun _ _ _ h => h) (Or.inl ⟨by rfl, ?_⟩) ?_ ?_
            rotate_left
            · intro w'
              go_simp
              with_reducible rfl
            rotate_left
            · simp only [Act.put, sA, sB, sC, i64_w, i32_w]
              rfl
            refine one_ (i := 5) (N := some 36) #[true, true, true, true, true, true, false, false, false, false] rfl rfl (one_of HT_.out (by kernel_rfl)) (by decide) (fun K hK => ?_)
            refine goes_ Try.func39 (by kernel_rfl) rfl #[.slice A1 l1.length c1] (by rfl) rfl rfl ga_ ?_
            (with_reducible refine (spec_l1Own.calls _ _ l1 t154 _ ?side1 ?side2 A12.out).mono ?_)
            (case side1 => exact Kd.C_below HR1.out HB.out)
            (case side2 => exact HC1.out)
            rintro e w20 ⟨v155, rfl, ho0, hb⟩
            refine ⟨_, rfl, ?_⟩
            have n0_ := Aside0.mk (HS1.out.below hb)
            have n1_ := Aside0.mk (below_step HB.out hb)
            have n2_ := Aside0.mk (Kd.R_lower ho0 (below_size HB.out))
            clear HS1 HB
            have HS1 := n0_
            have HB := n1_
            have HO := n2_
            clear n0_ n1_ n2_ ho0 hb
            refine hK.out _ _ ((blk_cell HS1.out.blk 0).trans rfl) (fun hHeld => ?_)
            clear hK K
            obtain ⟨AO, CO, eO⟩ := Kd.R_slice HO.out
            subst eO
            refine norm_ (a' := ?_) ?_ ?_
            rotate_left
            · show Act.put _ (some 36) _ = _
              simp only [Act.put, sA, sB, sC, i64_w, i32_w]
              rfl
            refine one_ (i := 6) (N := some 37) #[true, true, true, true, true, true, true, false, false, false] rfl rfl (one_of HT_.out (by kernel_rfl)) (by decide) (fun K hK => ?_)
            refine value_ (N := some 37) (v := .slice (some ⟨w20.heap.size, 0, none⟩) 1 1) (w1 := w20.alloc (.cells #[.slice AO t154.length CO] 33)) (by rfl) rfl (by first | (go_simp; done) | (go_simp; rfl)) ?_
            refine hK.out _ _ ((blk_cell (blk_alloc HS1.out.blk _) 0).trans rfl) (fun hHeld => ?_)
            clear hK K
            refine norm_ (a' := ?_) ?_ ?_
            rotate_left
            · show Act.put _ (some 37) _ = _
              simp only [Act.put, sA, sB, sC, i64_w, i32_w]
              rfl
            refine one_ (i := 7) (N := some 38) #[true, true, true, true, true, true, true, true, false, false] rfl rfl (one_of HT_.out (by kernel_rfl)) (by decide) (fun K hK => ?_)
            have hnx := Aside0.mk (Kd.R_apart' HO.out (Kd.S_typed HS1.out.row) (by decide))
            refine Kd.S_append_step kk33 (w0 := w20) base (by rfl) (.tmp 34) (.tmp 37) 22 33 (.slice none 0 0) 24 rfl Try.underlying22 infoS33 rfl (by decide) (by omega) (.slice AoX a3.length coX) a3 t154 [.slice AO t154.length CO] (fun _ => True) (fun k_ => some k_ = (Value.slice AO t154.length CO).ownBlock) rfl rfl ?aP ?aK (fun _ _ => trivial) ?aO ?aB ?aS ?aL ?_
            (case aP => exact ⟨_, rfl, Kd.R_lower (Kd.R_tight rfl HO.out) HBS.out⟩)
            (case aK => exact fun k_ hk => ⟨trivial, (hnx.out.1 k_ hk.symm).2⟩)
            (case aO => exact Kd.S_mono (Kd.S_below (Kd.S_bound HST.out.row) HB.out) (fun k_ hk => ⟨trivial, fun he => by have h1_ := Kd.R_base HO.out k_ he.symm; have h2_ := hk.2.2.1; omega⟩))
            (case aB => exact Below.refl _ _)
            (case aS => exact Nat.le_trans HBS.out (below_size HB.out))
            (case aL => have := c13.out; omega)
            intro v300 w300 ho hb hg hat
            obtain ⟨AoY, coY, eoY⟩ := Kd.R_slice (Kd.S_R ho)
            rw [show (a3 ++ [t154]).length = a3.length + 1 by simp] at eoY
            subst eoY
            have hb1 : w300.heap[g]? = some (.cells #[.slice AoX a3.length coX] 22 (0, 0)) := blk_grown HS1.out.blk hg (Kd.S_ne HS1.out.row HS1.out.blk (by decide))
            have HS2 := Aside0.mk (HS1.out.push ho ⟨hb.os, hb.tape, hb.output, hb.size, fun k hk => absurd hk (Nat.not_lt_zero k)⟩ hg hat)
            have hcz300 : w300.cell? ⟨g, 0, none⟩ = some (.slice AoX a3.length coX) := (blk_cell hb1 0).trans rfl
            have hfz300 := blk_frozen hb1 0
            clear ho hb hg hat hb1
            refine hK.out _ _ hcz300 (fun hHeld => ?_)
            clear hK K
            refine norm_ (a' := ?_) ?_ ?_
            rotate_left
            · show Act.put _ (some 38) _ = _
              simp only [Act.put, sA, sB, sC, i64_w, i32_w]
              rfl
            refine pure_ (i := 8) (N := some 39) (v := ?_) (a' := ?_) #[true, true, true, true, true, true, true, true, true, false] rfl rfl (any_of HT_.out (by kernel_rfl)) (fun _ _ _ h => h) (Or.inl ⟨by rfl, ?_⟩) ?_ ?_
            rotate_left
            · intro w'
              go_simp
              with_reducible rfl
            rotate_left
            · simp only [Act.put, sA, sB, sC, i64_w, i32_w]
              rfl
            refine last_ (i := 9) (N := none) #[true, true, true, true, true, true, true, true, true, true] rfl rfl (one_of HT_.out (by kernel_rfl)) (by decide) (fun K hK => ?_)
            refine skip_ (w1 := w300.setCell ⟨g, 0, none⟩ (.slice AoY (a3.length + 1) coY)) (by rfl) rfl (by first | (go_simp; done) | (go_simp; rfl)) ?_
            refine hK.out _ _ ?_
            clear hK K
            refine done_ (done_of HT_.out (by kernel_rfl)) ?_
            go_wp2
            first | go_end0 | ((try simp only [Exit.inBlock, Exit.then]); refine bodyPost_ret (results_none rfl _ _ _) rfl ?_)
            exact ⟨rfl, _, HS2.out⟩
          · rw [if_neg c13] at H
            cases H
        · replace c11 := Bool.eq_false_iff.mpr c11
          subst c11
          have H1 : (some a3) = some r := by rw [if_neg (show ¬ (false = true) by decide)] at H; exact H
          clear H
          have H := H1
          clear H1
          obtain rfl := Option.some.inj H
          go_enter Try.func24, Try.ntmps24
          go_wp2_with (first | (go_at_call 37; (with_reducible refine (spec_duIs.calls k _ _ l1 true _ ?side1 ?side2 A7.out).mono ?_); (case side1 => repeat (first | exact HR1.out | (with_reducible refine Kd.C_alloc ?_ _) | (with_reducible refine Kd.C_drewN ?_ _) | (with_reducible refine Kd.C_drew ?_))); (case side2 => exact HC1.out); rintro e w17 ⟨rfl, hb⟩; have n0_ := Aside0.mk (below_step (hb_) hb); clear HB; have HB := n0_; clear n0_; (try clear hb); (try clear hb2); (try clear hk); (try clear hi)) | (go_at_call 36; (with_reducible refine (spec_duLeast.calls k _ _ l1 t150 _ ?side1 ?side2 A9.out).mono ?_); (case side1 => repeat (first | exact (Kd.C_below HR1.out HB.out) | (with_reducible refine Kd.C_alloc ?_ _) | (with_reducible refine Kd.C_drewN ?_ _) | (with_reducible refine Kd.C_drew ?_))); (case side2 => exact HC1.out); rintro e w18 ⟨v151, rfl, ho0, hb⟩; have n0_ := Aside0.mk (Kd.R_lower ho0 (below_size (hb_))); have n1_ := Aside0.mk (below_step (hb_) hb); clear HB; have HO152 := n0_; have HB := n1_; clear n0_ n1_; (try clear hb); (try clear hb2); (try clear hk); (try clear hi); (try clear ho0); obtain ⟨Ao19, co19, eo19⟩ := Kd.R_slice HO152.out; subst eo19) | (go_at_call 38; (with_reducible refine (spec_l1Same.calls k _ _ t150 _ _ l1 false _ ?side1 ?side2 ?side3 ?side4 A10.out).mono ?_); (case side1 => repeat (first | exact (Kd.R_reads' HO152.out).2.2 | (with_reducible refine Kd.C_alloc ?_ _) | (with_reducible refine Kd.C_drewN ?_ _) | (with_reducible refine Kd.C_drew ?_))); (case side2 => exact (Kd.R_reads' HO152.out).2.1); (case side3 => repeat (first | exact (Kd.C_below HR1.out HB.out) | (with_reducible refine Kd.C_alloc ?_ _) | (with_reducible refine Kd.C_drewN ?_ _) | (with_reducible refine Kd.C_drew ?_))); (case side4 => exact HC1.out); rintro e w' ⟨rfl, ⟨nd, rfl⟩⟩))
          first | go_end0 | ((try simp only [Exit.inBlock, Exit.then]); refine bodyPost_ret (results_none rfl _ _ _) rfl ?_)
          exact ⟨rfl, vO0, HST.out.below (hb_)⟩
      · replace c8 := Bool.eq_false_iff.mpr c8
        subst c8
        have H1 : (some a3) = some r := by rw [if_neg (show ¬ (false = true) by decide)] at H; exact H
        clear H
        have H := H1
        clear H1
        obtain rfl := Option.some.inj H
        go_enter Try.func24, Try.ntmps24
        go_wp2_with (first | (go_at_call 37; (with_reducible refine (spec_duIs.calls k _ _ l1 false _ ?side1 ?side2 A7.out).mono ?_); (case side1 => repeat (first | exact HR1.out | (with_reducible refine Kd.C_alloc ?_ _) | (with_reducible refine Kd.C_drewN ?_ _) | (with_reducible refine Kd.C_drew ?_))); (case side2 => exact HC1.out); rintro e w20 ⟨rfl, hb⟩; have n0_ := Aside0.mk (below_step (hb_) hb); clear HB; have HB := n0_; clear n0_; (try clear hb); (try clear hb2); (try clear hk); (try clear hi)))
        first | go_end0 | ((try simp only [Exit.inBlock, Exit.then]); refine bodyPost_ret (results_none rfl _ _ _) rfl ?_)
        exact ⟨rfl, vO0, HST.out.below (hb_)⟩
    · rw [if_neg c6] at H
      have c6b0 : (a2 == (wrap64 ((wrap64 (3 * a0)) - 12))) = false := beq_eq_false_iff_ne.mpr c6
      have c6b1 : (a2 != (wrap64 ((wrap64 (3 * a0)) - 12))) = true := bne_iff_ne.mpr c6
      obtain rfl := Option.some.inj H
      go_enter Try.func24, Try.ntmps24
      go_wp2
      first | go_end0 | ((try simp only [Exit.inBlock, Exit.then]); refine bodyPost_ret (results_none rfl _ _ _) rfl ?_)
      exact ⟨rfl, vO0, HST.out.below (hb_)⟩
  · rw [if_neg c5] at H
    have c5b0 : ((l1.length : Int) == a0) = false := beq_eq_false_iff_ne.mpr c5
    have c5b1 : ((l1.length : Int) != a0) = true := bne_iff_ne.mpr c5
    have HC21 := Aside0.mk H
    clear H
    go_enter Try.func24, Try.ntmps24
    go_upto_if 42 with (fail)
    go_cut [8] (fun v8 wc => ∃ (kq : Nat) (x8_20 : Int), v8 = .int .i64 x8_20 ∧ Aside0 (spec_duAll.j0 kq a0 l1 a2 a3 x8_20 = some r) ∧ Aside0 (kq ≤ k) ∧ Aside0 (Below w.heap.size w wc))
    case first =>
      have H := HC21.out
      clear HC21
      by_cases c22 : (l1.length : Int) > 0
      · rw [if_pos c22] at H
        have c22b0 : decide (0 < (l1.length : Int)) = true := decide_eq_true c22
        have c22b1 : decide (0 < l1.length) = true := decide_eq_true (by omega)
        clear c22
        (first | rw [c22b0] | (simp only [i64_w, i32_w]; rw [c22b0]) | rw [c22b1] | skip)
        by_cases c23 : 0 < (l1.length : Int)
        · rw [if_pos c23] at H
          have c23b0 : decide (0 < (l1.length : Int)) = true := decide_eq_true c23
          have c23b1 : decide (0 < l1.length) = true := decide_eq_true (by omega)
          clear c23
          have H' := Aside0.mk H
          clear H
          have p157 : 0 ≤ (0 : Int) := (by omega)
          have q157 : 0 < (l1.length : Int) := odt_
          obtain ⟨ad157, e157, hx157_0⟩ := Kd.at_int HR1.out 0 p157 q157
          cases e157
          have qi157 : (0 < l1.length) = True := eq_true (by omega)
          (try rw [show ((0 : Int)).toNat = 0 from rfl] at hx157_0)
          (try rw [Addr.add_zero'] at hx157_0)
          replace hx157_0 := (HB.out.cell (World.block_lt_of_cell? w _ hx157_0)).trans hx157_0
          replace p157 := eq_true p157
          replace q157 := eq_true q157
          go_wp2
          go_meet
          case rel => exact ⟨_, (rd l1 0), (by first | rfl | (simp; done) | (simp [*]; done)), H', ⟨by first | omega | exact Nat.le_refl _⟩, ⟨hb_⟩⟩
        · rw [if_neg c23] at H
          exact absurd H (by simp)
      · rw [if_neg c22] at H
        have c22b0 : decide (0 < (l1.length : Int)) = false := decide_eq_false c22
        have c22b1 : decide (0 < l1.length) = false := decide_eq_false (by omega)
        clear c22
        (first | rw [c22b0] | (simp only [i64_w, i32_w]; rw [c22b0]) | rw [c22b1] | skip)
        have H' := Aside0.mk H
        clear H
        go_wp2
        go_meet
        case rel => exact ⟨_, ((-6)), (by first | rfl | (simp; done) | (simp [*]; done)), H', ⟨by first | omega | exact Nat.le_refl _⟩, ⟨hb_⟩⟩
    case rest =>
      clear HC21
      try clear c1
      try clear p1
      try clear q1
      try clear hx1
      try clear qi1
      try clear c2
      try clear p2
      try clear c3
      try clear c5
      try clear c5b0
      try clear c5b1
      try clear c6
      try clear c6b0
      try clear c6b1
      try clear p6
      try clear c8
      try clear c11
      try clear p15
      try clear q15
      try clear hx15
      try clear qi15
      try clear c22
      try clear c22b0
      try clear c22b1
      try clear c23
      try clear c23b0
      try clear c23b1
      try clear hx157_0
      try clear p157
      try clear q157
      obtain ⟨kq, x8_20, rfl, HA, HJ20, HB⟩ := hcut
      cases kq with
      | zero => exact absurd HA.out (by simp [spec_duAll.j0])
      | succ kj20 =>
        have H := HA.out
        clear HA
        simp only [spec_duAll.j0] at H
        have H' := Aside0.mk H
        clear H
        go_wp2
        go_loopg [9] kj20 (fun kq v9 w' => ∃ (x7_2 : List (List Int)) (vO : Value) (x9_2 : Int), v9 = .int .i64 x9_2 ∧ Aside0 (spec_duAll.l0 kq a0 l1 a2 x7_2 x8_20 x9_2 = some r) ∧ Aside0 (kq ≤ kj20) ∧ Aside0 (RowsSt w w' g base vO0 vO x7_2))
        case atStart => exact ⟨a3, vO0, (x8_20), (by first | rfl | (simp; done) | (simp [*]; done)), H', ⟨Nat.le_refl _⟩, ⟨HST.out.below (hb_)⟩⟩
        case round =>
          clear H'
          try clear c1
          try clear p1
          try clear q1
          try clear hx1
          try clear qi1
          try clear c2
          try clear p2
          try clear c3
          try clear c5
          try clear c5b0
          try clear c5b1
          try clear c6
          try clear c6b0
          try clear c6b1
          try clear p6
          try clear c8
          try clear c11
          try clear p15
          try clear q15
          try clear hx15
          try clear qi15
          try clear c22
          try clear c22b0
          try clear c22b1
          try clear c23
          try clear c23b0
          try clear c23b1
          try clear hx157_0
          try clear p1
          try clear p15
          try clear p157
          try clear p2
          try clear p6
          try clear q1
          try clear q15
          try clear q157
          obtain ⟨x7_2, vO, x9_2, rfl, HA, HK2, HST⟩ := hrel
          have HR1' := Aside0.mk (HF1.out wr HST.out.keep)
          have HWR := Aside0.mk (Nat.le_trans HBS.out HST.out.keep.1)
          clear HR1 HB
          have HR1 := HR1'
          have HB := Aside0.mk (Below.refl wr.heap.size wr)
          clear HR1'
          cases gk with
          | zero => exact absurd HA.out (by simp [spec_duAll.l0])
          | succ k2 =>
            have H := HA.out
            clear HA
            simp only [spec_duAll.l0] at H
            by_cases c24 : x9_2 ≤ 2
            · rw [if_pos c24] at H
              have c24b0 : decide (x9_2 ≤ 2) = true := decide_eq_true c24
              clear c24
              have HC25 := Aside0.mk H
              clear H
              go_upto_if 59 with (fail)
              go_cut [11] (fun v11 wc => ∃ (kq : Nat) (x11_24 : Int), v11 = .int .i64 x11_24 ∧ Aside0 (spec_duAll.j2 kq a0 l1 a2 x7_2 x8_20 x9_2 (wrap64 ((wrap64 (a0 - 1)) - (l1.length : Int))) x11_24 = some r) ∧ Aside0 (kq ≤ k2) ∧ Aside0 (Below wr.heap.size wr wc))
              case first =>
                have H := HC25.out
                clear HC25
                by_cases c26 : (l1.length : Int) = 0
                · rw [if_pos c26] at H
                  have c26b0 : ((l1.length : Int) == 0) = true := beq_iff_eq.mpr c26
                  have c26b1 : ((l1.length : Int) != 0) = false := bne_eq_false_iff_eq.mpr c26
                  clear c26
                  (first | rw [c26b0] | (simp only [i64_w, i32_w]; rw [c26b0]) | skip)
                  have H' := Aside0.mk H
                  clear H
                  go_wp2
                  go_meet
                  case rel => exact ⟨_, (x9_2), (by first | rfl | (simp; done) | (simp [*]; done)), H', ⟨by have := HJ20.out; have := HK2.out; first | omega | exact Nat.le_refl _⟩, ⟨hb_⟩⟩
                · rw [if_neg c26] at H
                  have c26b0 : ((l1.length : Int) == 0) = false := beq_eq_false_iff_ne.mpr c26
                  have c26b1 : ((l1.length : Int) != 0) = true := bne_iff_ne.mpr c26
                  have c26b2 : ¬ (l1 = []) := fun h_ => c26 (by rw [h_]; rfl)
                  (first | rw [c26b0] | (simp only [i64_w, i32_w]; rw [c26b0]) | skip)
                  have H' := Aside0.mk H
                  clear H
                  go_wp2
                  go_meet
                  case rel => exact ⟨_, (x8_20), (by first | rfl | (simp; done) | (simp [*]; done)), H', ⟨by have := HJ20.out; have := HK2.out; first | omega | exact Nat.le_refl _⟩, ⟨hb_⟩⟩
              case rest =>
                clear HC25
                try clear c1
                try clear p1
                try clear q1
                try clear hx1
                try clear qi1
                try clear c2
                try clear p2
                try clear c3
                try clear c5
                try clear c5b0
                try clear c5b1
                try clear c6
                try clear c6b0
                try clear c6b1
                try clear p6
                try clear c8
                try clear c11
                try clear p15
                try clear q15
                try clear hx15
                try clear qi15
                try clear c22
                try clear c22b0
                try clear c22b1
                try clear c23
                try clear c23b0
                try clear c23b1
                try clear c24
                try clear c24b0
                try clear c26
                try clear c26b0
                try clear c26b1
                try clear c26b2
                try clear hx157_0
                try clear p1
                try clear p15
                try clear p157
                try clear p2
                try clear p6
                try clear q1
                try clear q15
                try clear q157
                obtain ⟨kq, x11_24, rfl, HA, HJ24, HB⟩ := hcut
                cases kq with
                | zero => exact absurd HA.out (by simp [spec_duAll.j2])
                | succ kj24 =>
                  have H := HA.out
                  clear HA
                  simp only [spec_duAll.j2] at H
                  have HC27 := Aside0.mk H
                  clear H
                  go_upto_region 12 with (fail)
                  go_cut [83] (fun v83 wc => ∃ (kq : Nat) (x83_26 : Bool), v83 = .bool x83_26 ∧ Aside0 (spec_duAll.j3 kq a0 l1 a2 x7_2 x8_20 x9_2 x83_26 = some r) ∧ Aside0 (kq ≤ kj24) ∧ Aside0 (Below wr.heap.size wr wc))
                  case first =>
                    have H := HC27.out
                    clear HC27
                    by_cases c28 : (wrap64 ((wrap64 (a2 + x9_2)) + (wrap64 (2 * (wrap64 ((wrap64 (a0 - 1)) - (l1.length : Int))))))) < (wrap64 ((wrap64 (3 * a0)) - 12))
                    · rw [if_pos c28] at H
                      have c28b0 : decide ((wrap64 ((wrap64 (a2 + x9_2)) + (wrap64 (2 * (wrap64 ((wrap64 (a0 - 1)) - (l1.length : Int))))))) < (wrap64 ((wrap64 (3 * a0)) - 12))) = true := decide_eq_true c28
                      clear c28
                      (first | rw [c28b0] | (simp only [i64_w, i32_w]; rw [c28b0]) | skip)
                      have H' := Aside0.mk H
                      clear H
                      go_wp2
                      go_meet
                      case rel => exact ⟨_, (true), (by first | rfl | (simp; done) | (simp [*]; done)), H', ⟨by have := HJ20.out; have := HK2.out; have := HJ24.out; first | omega | exact Nat.le_refl _⟩, ⟨hb_⟩⟩
                    · rw [if_neg c28] at H
                      have c28b0 : decide ((wrap64 ((wrap64 (a2 + x9_2)) + (wrap64 (2 * (wrap64 ((wrap64 (a0 - 1)) - (l1.length : Int))))))) < (wrap64 ((wrap64 (3 * a0)) - 12))) = false := decide_eq_false c28
                      clear c28
                      (first | rw [c28b0] | (simp only [i64_w, i32_w]; rw [c28b0]) | skip)
                      have H' := Aside0.mk H
                      clear H
                      go_wp2
                      go_meet
                      case rel => exact ⟨_, (decide ((wrap64 ((wrap64 (a2 + x9_2)) + (wrap64 ((wrap64 ((wrap64 (a0 - 1)) - (l1.length : Int))) * x11_24)))) > (wrap64 ((wrap64 (3 * a0)) - 12)))), (by first | rfl | (simp; done) | (simp [*]; done)), H', ⟨by have := HJ20.out; have := HK2.out; have := HJ24.out; first | omega | exact Nat.le_refl _⟩, ⟨hb_⟩⟩
                  case rest =>
                    clear HC27
                    try clear c1
                    try clear p1
                    try clear q1
                    try clear hx1
                    try clear qi1
                    try clear c2
                    try clear p2
                    try clear c3
                    try clear c5
                    try clear c5b0
                    try clear c5b1
                    try clear c6
                    try clear c6b0
                    try clear c6b1
                    try clear p6
                    try clear c8
                    try clear c11
                    try clear p15
                    try clear q15
                    try clear hx15
                    try clear qi15
                    try clear c22
                    try clear c22b0
                    try clear c22b1
                    try clear c23
                    try clear c23b0
                    try clear c23b1
                    try clear c24
                    try clear c24b0
                    try clear c26
                    try clear c26b0
                    try clear c26b1
                    try clear c26b2
                    try clear c28
                    try clear c28b0
                    try clear hx157_0
                    try clear p1
                    try clear p15
                    try clear p157
                    try clear p2
                    try clear p6
                    try clear q1
                    try clear q15
                    try clear q157
                    obtain ⟨kq, x83_26, rfl, HA, HJ26, HB⟩ := hcut
                    cases kq with
                    | zero => exact absurd HA.out (by simp [spec_duAll.j3])
                    | succ kj26 =>
                      have H := HA.out
                      clear HA
                      simp only [spec_duAll.j3] at H
                      by_cases c29 : x83_26 = true
                      · subst c29
                        have H1 : (spec_duAll.l0 kj26 a0 l1 a2 x7_2 x8_20 (wrap64 (x9_2 + 1))) = some r := by rw [if_pos rfl] at H; exact H
                        clear H
                        have H := H1
                        clear H1
                        have H' := Aside0.mk H
                        clear H
                        go_wp2
                        go_roundg kj26
                        case measure => have := HJ20.out; have := HK2.out; have := HJ24.out; have := HJ26.out; omega
                        case rel => exact ⟨x7_2, vO, (wrap64 (x9_2 + 1)), (by first | rfl | (simp; done) | (simp [*]; done)), H', ⟨by have := HJ20.out; have := HK2.out; have := HJ24.out; have := HJ26.out; omega⟩, ⟨HST.out.below (hb_)⟩⟩
                      · replace c29 := Bool.eq_false_iff.mpr c29
                        subst c29
                        have H1 : ((spec_l1Own.f l1).bind fun t158 => (if t158.length < 17592186044416 then ((spec_duAll.f kj26 a0 (t158 ++ [x9_2]) (wrap64 (a2 + x9_2)) x7_2).bind fun t164 => (spec_duAll.l0 kj26 a0 l1 a2 t164 x8_20 (wrap64 (x9_2 + 1)))) else (none))) = some r := by rw [if_neg (show ¬ (false = true) by decide)] at H; exact H
                        clear H
                        have H := H1
                        clear H1
                        replace H := Option.bind_eq_some_iff.mp H
                        obtain ⟨t158, A300, H⟩ := H
                        replace H : (if t158.length < 17592186044416 then ((spec_duAll.f kj26 a0 (t158 ++ [x9_2]) (wrap64 (a2 + x9_2)) x7_2).bind fun t164 => (spec_duAll.l0 kj26 a0 l1 a2 t164 x8_20 (wrap64 (x9_2 + 1)))) else (none)) = some r := H
                        have A30 := Aside0.mk A300
                        clear A300
                        by_cases c31 : t158.length < 17592186044416
                        · rw [if_pos c31] at H
                          have LMc31 := Aside0.mk c31
                          clear c31
                          obtain ⟨y161, hy161⟩ : ∃ y_ : List Int, y_ = (t158 ++ [x9_2]) := ⟨_, rfl⟩
                          replace H : ((spec_duAll.f kj26 a0 y161 (wrap64 (a2 + x9_2)) x7_2).bind fun t164 => (spec_duAll.l0 kj26 a0 l1 a2 t164 x8_20 (wrap64 (x9_2 + 1)))) = some r := by first | (rw [hy161]; with_reducible exact H) | (have H2_ := (Option.bind_some _ _).symm.trans H; rw [hy161]; with_reducible exact H2_) | (have H2_ := (Option.bind_some _ _).symm.trans H; with_reducible exact H2_) | with_reducible exact H | (rw [hy161]; exact H) | exact H
                          have Ny161 := Aside0.mk hy161
                          clear hy161
                          replace H := Option.bind_eq_some_iff.mp H
                          obtain ⟨t164, A320, H⟩ := H
                          replace H : (spec_duAll.l0 kj26 a0 l1 a2 t164 x8_20 (wrap64 (x9_2 + 1))) = some r := H
                          have A32 := Aside0.mk A320
                          clear A320
                          have H' := Aside0.mk H
                          clear H
                          go_wp2_with (first | ((with_reducible refine gate_callee (f := 39) rfl ?_); refine goesL_ (some 86) rfl rfl Try.func39 (by kernel_rfl) rfl #[.slice A1 l1.length c1] rfl ga_ ?_; (with_reducible refine (spec_l1Own.calls _ _ l1 t158 _ ?side1 ?side2 A30.out).mono ?_); (case side1 => repeat (first | exact (Kd.C_below HR1.out HB.out) | (with_reducible refine Kd.C_alloc ?_ _) | (with_reducible refine Kd.C_drewN ?_ _) | (with_reducible refine Kd.C_drew ?_))); (case side2 => exact HC1.out); rintro e w33 ⟨v159, rfl, ho0, hb⟩; refine ⟨_, rfl, ?_⟩; have n0_ := Aside0.mk (Kd.R_lower ho0 (below_size (hb_))); have n1_ := Aside0.mk (below_step (hb_) hb); clear HB; have HO160 := n0_; have HB := n1_; clear n0_ n1_; (try clear hb); (try clear hb2); (try clear hk); (try clear hi); (try clear ho0)) | ((with_reducible refine gate_builtin (b := .append) (xs := #[.tmp 86, .tmp 88]) rfl ?_); at_builtin; refine Kd.R_append (Kd.int .i64) (w0 := wr) wr.heap.size rfl (.tmp 86) (.tmp 88) 33 3 (.int .i64 0) 8 rfl Try.underlying33 info3 rfl (by decide) (by omega) v159 t158 x9_2 [.int .i64 x9_2] (fun _ => True) (fun _ => False) rfl rfl ?aP (fun _ hk => hk.elim) ?aF ?aO ?aB ?aS ?aL ?_; (case aP => exact rfl); (case aB => exact (hb_)); (case aF => exact (fun _ _ => trivial)); (case aO => exact (rk_ HO160.out)); (case aS => exact (below_size (hb_))); (case aL => have := LMc31.out; omega); intro v162 w34 ho hb hg hat; rw [← Ny161.out] at ho; have n0_ := Aside0.mk (hb); have n1_ := Aside0.mk (ho); clear HB; clear HO160; have HB := n0_; have HO163 := n1_; clear n0_ n1_; clear ho hb hg hat; obtain ⟨Ao35, co35, eo35⟩ := Kd.R_slice HO163.out; subst eo35) | ((with_reducible refine gate_callee (f := 24) rfl ?_); refine goesL_ (some 94) rfl rfl Try.func24 (by kernel_rfl) rfl #[.int .i64 a0, .slice Ao35 y161.length co35, .int .i64 (wrap64 (a2 + x9_2)), .pointer (some ⟨g, 0, none⟩)] rfl ga_ ?_; have HS1 := Aside0.mk (HST.out.below (hb_)); have HBS1 := Aside0.mk (Nat.le_trans HWR.out (below_size (hb_))); (refine (ih.out kj26 (by have := HJ20.out; have := HK2.out; have := HJ24.out; have := HJ26.out; omega) a0 _ _ y161 (wrap64 (a2 + x9_2)) g base _ x7_2 t164 _ (RowsSt.foot HS1.out (rk_ HO163.out)) (Kd.R_reads' HO163.out).2.1 HBS1.out HS1.out.self A32.out).mono ?_); rintro e w36 ⟨rfl, v301, hs⟩; refine ⟨_, rfl, ?_⟩; have HS3 := Aside0.mk (HS1.out.then_ hs); clear hs HB HO163))
                          go_roundg kj26
                          case measure => have := HJ20.out; have := HK2.out; have := HJ24.out; have := HJ26.out; omega
                          case rel => exact ⟨t164, v301, (wrap64 (x9_2 + 1)), (by first | rfl | (simp; done) | (simp [*]; done)), H', ⟨by have := HJ20.out; have := HK2.out; have := HJ24.out; have := HJ26.out; omega⟩, ⟨HS3.out.below (by repeat (first | exact Below.refl _ _ | apply below_alloc | apply pw_below_drewN | apply below_drew1))⟩⟩
                        · rw [if_neg c31] at H
                          exact absurd H (by simp)
            · rw [if_neg c24] at H
              have c24b0 : decide (x9_2 ≤ 2) = false := decide_eq_false c24
              clear c24
              obtain rfl := Option.some.inj H
              go_wp2
              go_end0
              exact ⟨rfl, vO, HST.out.below (by repeat (first | exact Below.refl _ _ | apply below_alloc | apply pw_below_drewN | apply below_drew1))⟩
/-! ### spec_AllAround: function 6 (a contract by hand) -/
def spec_AllAround.f (k : Nat) (a0 : Int) : Option (List (List Int) × Bool) := ((spec_l1In.f a0 3 9).bind fun t1 => (if t1 = true then ((spec_duAll.f k a0 [] 0 []).bind fun t2 => (some (t2, true))) else (some ([], false))))
theorem spec_AllAround.mono : ∀ a0 k, LeO (spec_AllAround.f k a0) (spec_AllAround.f (k + 1) a0) := by
  intro a0 k
  unfold spec_AllAround.f
  repeat' first
      | (with_reducible exact spec_duAll.mono _ _ _ _ _)
      | (with_reducible exact LeO.refl _)
      | (with_reducible exact LeO.none _)
      | (with_reducible refine LeO.ite ?_ ?_)
      | (with_reducible refine LeO.bind ?_ (fun _ => ?_))
set_option maxHeartbeats 8000000 in
set_option maxRecDepth 100000 in
theorem spec_AllAround.calls (k : Nat) (a0 : Int) (r1 : List (List Int)) (r2 : Bool) (w : World) (h : spec_AllAround.f k a0 = some (r1, r2)) :
    Calls Try.prog 6 #[.int .i64 a0] w fun e w' => ∃ v0_ : Value, e = .returned (.tuple #[v0_, .bool r2]) ∧ Kd.S (Kd.slice 3 (Kd.int .i64)) 33 w' w.heap.size (fun _ => True) v0_ r1 ∧ Below w.heap.size w w' := by
  have HB := Aside0.mk (Below.refl w.heap.size w)
  have H : ((spec_l1In.f a0 3 9).bind fun t1 => (if t1 = true then ((spec_duAll.f k a0 [] 0 []).bind fun t2 => (some (t2, true))) else (some ([], false)))) = some (r1, r2) := h
  clear h
  replace H := Option.bind_eq_some_iff.mp H
  obtain ⟨t1, A10, H⟩ := H
  have A1 := Aside0.mk A10
  clear A10
  by_cases c3 : t1 = true
  · subst c3
    rw [if_pos rfl] at H
    replace H := Option.bind_eq_some_iff.mp H
    obtain ⟨t2, A20, H⟩ := H
    have A2 := Aside0.mk A20
    clear A20
    simp only [Option.some.injEq, Prod.mk.injEq] at H
    obtain ⟨rfl, rfl⟩ := H
    go_enter Try.func6, Try.ntmps6
    go_wp2_with (first | ((with_reducible refine gate_callee (f := 23) rfl ?_); refine goesL_ (some 6) rfl rfl Try.func23 (by kernel_rfl) rfl #[.int .i64 a0, .int .i64 3, .int .i64 9] rfl ga_ ?_; (with_reducible refine (spec_l1In.calls a0 3 9 true _ A1.out).mono ?_); rintro e w5 ⟨rfl, hd⟩; refine ⟨_, rfl, ?_⟩; have hb := hd.below; clear hd; have n0_ := Aside0.mk (below_step (hb_) hb); clear HB; have HB := n0_; clear n0_; (try clear hb)) | ((with_reducible refine gate_dst (N := 4) rfl ?_); refine box_event ?hg (N := 4) ?hd (cs := #[.slice none 0 0]) (t := 22) ?hr ?_; (case hd => rfl); (case hg => rfl); (case hr => first | (go_simp; done) | (go_simp; rfl)); intro g hg w6 hbox hb; have n1_ := Aside0.mk hbox; have n2_ := Aside0.mk ((by rw [hg]; exact (below_size (hb_)) : w.heap.size ≤ g)); have n0_ := Aside0.mk (below_step (hb_) hb); clear HB; have HB := n0_; have BKG := n1_; have GE := n2_; clear n0_ n1_ n2_; clear hb hbox hg; have HB6 := HB; have HS := Aside0.mk (show RowsSt w6 w6 g w.heap.size (.slice none 0 0) (.slice none 0 0) [] from ⟨BKG.out, Kd.S_nil _ _ _ _ _, KeepBut.refl _ _ _, Below.refl _ _, .inl rfl⟩)) | ((with_reducible refine gate_callee (f := 24) rfl ?_); refine goesL_ (some 9) rfl rfl Try.func24 (by kernel_rfl) rfl #[.int .i64 a0, .slice none 0 0, .int .i64 0, .pointer (some ⟨g, 0, none⟩)] rfl ga_ ?_; have HS1 := Aside0.mk (HS.out.below (by repeat (first | exact Below.refl _ _ | apply below_alloc | apply pw_below_drewN | apply below_drew1))); (refine (spec_duAll.calls k a0 none 0 [] 0 g w.heap.size (.slice none 0 0) [] t2 _ (fun W' _ => Kd.C_nil (Kd.int .i64) W') (Nat.le_refl _) (below_size (hb_)) HS1.out.self A2.out).mono ?_); rintro e w7 ⟨rfl, v7, hs⟩; refine ⟨_, rfl, ?_⟩; have HS5 := Aside0.mk (HS1.out.then_ hs); clear hs HS1; obtain ⟨AoW, coW, eoW⟩ := Kd.R_slice (Kd.S_R HS5.out.row); subst eoW; have hcz5 : w7.cell? ⟨g, 0, none⟩ = some (.slice AoW t2.length coW) := (blk_cell HS5.out.blk 0).trans rfl; have hfz5 := blk_frozen HS5.out.blk 0))
    go_ret2
    exact ⟨_, by first | rfl | (simp [errW_none, errW_some] <;> rfl) | (simp [*, errW_none, errW_some] <;> rfl), by (with_reducible repeat (first | apply Kd.S_alloc | apply Kd.S_drewN | apply Kd.S_drew)); exact HS5.out.row, (by
      have h1_ : Below w.heap.size w w7 := ⟨HS5.out.eff.os.trans HB6.out.os, HS5.out.eff.tape.trans HB6.out.tape, HS5.out.eff.output.trans HB6.out.output, Nat.le_trans HB6.out.size HS5.out.keep.1, fun k_ hk => by
        have hge := GE.out
        exact (HS5.out.keep.2 k_ (Nat.lt_of_lt_of_le hk HB6.out.size) (by omega) (by simp [Value.ownBlock])).trans (HB6.out.block k_ hk)⟩
      repeat (first | exact h1_ | apply below_alloc | apply pw_below_drewN | apply below_drew1))⟩
  · replace c3 := Bool.eq_false_iff.mpr c3
    subst c3
    rw [if_neg (show ¬ (false = true) by decide)] at H
    simp only [Option.some.injEq, Prod.mk.injEq] at H
    obtain ⟨rfl, rfl⟩ := H
    go_enter Try.func6, Try.ntmps6
    go_wp2_with (first | ((with_reducible refine gate_callee (f := 23) rfl ?_); refine goesL_ (some 6) rfl rfl Try.func23 (by kernel_rfl) rfl #[.int .i64 a0, .int .i64 3, .int .i64 9] rfl ga_ ?_; (with_reducible refine (spec_l1In.calls a0 3 9 false _ A1.out).mono ?_); rintro e w5 ⟨rfl, hd⟩; refine ⟨_, rfl, ?_⟩; have hb := hd.below; clear hd; have n0_ := Aside0.mk (below_step (hb_) hb); clear HB; have HB := n0_; clear n0_; (try clear hb)))
    go_ret2
    exact ⟨_, by first | rfl | (simp [errW_none, errW_some] <;> rfl) | (simp [*, errW_none, errW_some] <;> rfl), Kd.S_nil _ _ _ _ _, hb_⟩

end Go.Proofs.Ytogafcjfaicpgaa.MC
