-- Written by a program of this session (wip/print/myprint.py) over the kit's printer; Lean checks it.
import Derived.Test.YtnnmpdhijdkpcaaMWx0
import Derived.Test.YtnnmpdhijdkpcaaMWx6
import Derived.Test.YtnnmpdhijdkpcaaMWx8
namespace Go.Proofs.Ytnnmpdhijdkpcaa.MW
open Go.RowKit Go.Proofs.YtnnmpdhijdkpcaaW.PrintWords Go.Proofs.YtnnmpdhijdkpcaaW.PrintLast Go.Proofs.YtnnmpdhijdkpcaaW.PrintMore Go.Proofs.YtnnmpdhijdkpcaaV
attribute [local go_sem] max2_int min2_int max_two min_two max_three min_three max_four min_four   -- for this text's walks alone
set_option linter.unusedVariables false
set_option linter.unusedSimpArgs false

/-! ### spec_bdSets: function 26 (a contract by hand: the pointer's slice as a state) -/
mutual
def spec_bdSets.l0 : Nat → List (S37) → List (S37) → List (List S37) → Int → Option (List (List S37))
 | 0, _, _, _, _ => none
 | k + 1, x0, x1, x7, x8 => if x8 < (x0.length : Int) then ((some (([] : List (S37)) : List (S37))).bind fun y168 => (if y168.length + x1.length < 8796093022208 then ((some (y168 ++ x1 : List (S37))).bind fun y171 => (if 0 ≤ x8 then ((some (([(⟨(rd_T37 x0 x8).f0, (rd_T37 x0 x8).f1⟩ : S37)] : List (S37)) : List (S37))).bind fun y175 => (if y171.length + y175.length < 8796093022208 then ((some (y171 ++ y175 : List (S37))).bind fun y178 => ((spec_bdBand.f k y178).bind fun t181 => (if (t181.length : Int) = (y178.length : Int) then (if x7.length < 5000000000000 then ((spec_bdSets.f k x0 y178 (wrap64 (x8 + 1)) (x7 ++ [y178])).bind fun t184 => (spec_bdSets.l0 k x0 x1 t184 (wrap64 (x8 + 1)))) else (none)) else (spec_bdSets.l0 k x0 x1 x7 (wrap64 (x8 + 1)))))) else (none))) else (none))) else (none))) else (some x7)
def spec_bdSets.f : Nat → List (S37) → List (S37) → Int → List (List S37) → Option (List (List S37))
 | 0, _, _, _, _ => none
 | k + 1, l0, l1, a2, a3 => spec_bdSets.l0 k l0 l1 a3 a2
end
theorem spec_bdSets.mono_l : ∀ k, (∀ y0 y1 y2 y3, LeO (spec_bdSets.f k y0 y1 y2 y3) (spec_bdSets.f (k + 1) y0 y1 y2 y3)) ∧ (∀ y0 y1 y2 y3, LeO (spec_bdSets.l0 k y0 y1 y2 y3) (spec_bdSets.l0 (k + 1) y0 y1 y2 y3))
 | 0 => ⟨fun _ _ _ _ r h => by simp [spec_bdSets.f] at h, fun _ _ _ _ r h => by simp [spec_bdSets.l0] at h⟩
 | k + 1 => by
  obtain ⟨ih0, ih1⟩ := spec_bdSets.mono_l k
  refine ⟨?_, ?_⟩
  ·intro y0 y1 y2 y3
   unfold spec_bdSets.f
   repeat' first
   | (with_reducible exact ih0 _ _ _ _)
   | (with_reducible exact ih1 _ _ _ _)
   | (with_reducible exact spec_bdBand.mono _ _)
   | (with_reducible exact LeO.refl _)
   | (with_reducible exact LeO.none _)
   | (with_reducible refine LeO.ite ?_ ?_)
   | (with_reducible refine LeO.bind ?_ (fun _ => ?_))
   | exact ih0 _ _ _ _
   | exact ih1 _ _ _ _
   | exact spec_bdBand.mono _ _
   | exact LeO.none _
   | refine LeO.ite ?_ ?_
   | refine LeO.bind ?_ (fun _ => ?_)
  ·intro y0 y1 y2 y3
   unfold spec_bdSets.l0
   repeat' first
   | (with_reducible exact ih0 _ _ _ _)
   | (with_reducible exact ih1 _ _ _ _)
   | (with_reducible exact spec_bdBand.mono _ _)
   | (with_reducible exact LeO.refl _)
   | (with_reducible exact LeO.none _)
   | (with_reducible refine LeO.ite ?_ ?_)
   | (with_reducible refine LeO.bind ?_ (fun _ => ?_))
   | exact ih0 _ _ _ _
   | exact ih1 _ _ _ _
   | exact spec_bdBand.mono _ _
   | exact LeO.none _
   | refine LeO.ite ?_ ?_
   | refine LeO.bind ?_ (fun _ => ?_)
theorem spec_bdSets.mono : ∀ a0 a1 a2 a3 k, LeO (spec_bdSets.f k a0 a1 a2 a3) (spec_bdSets.f (k + 1) a0 a1 a2 a3) := by
 intro a0 a1 a2 a3 k
 obtain ⟨ih0, ih1⟩ := spec_bdSets.mono_l k
 exact ih0 a0 a1 a2 a3
def spec_bdSets.T3 : Bool × List (List Nat × List Nat) := (true, [([], []), ([], []), ([0, 1], [0, 1]), ([], []), ([], []), ([3, 4], [3, 4]), ([5], [5]), ([6], [6]), ([2, 7, 2], [2, 7]), ([8, 8, 0, 1, 2, 3, 4, 5, 6, 7, 8], [8])])
def spec_bdSets.B3 : List Nat := [0, 0, 3, 0, 0, 24, 56, 120, 255, 511]
theorem spec_bdSets.tab3 : rtab .any (opsOf Try.f26 3) = spec_bdSets.T3 := by kernel_rfl
theorem spec_bdSets.bits3 : waitsOk spec_bdSets.T3.2 spec_bdSets.B3 = true := by kernel_rfl
theorem infoS26 : (Try.prog.info? 26).map (fun i => (i.zero, i.size, i.bytes)) = some (some (.slice none 0 0), 1, 24) := by kernel_rfl
/-- Rows of rows. -/
abbrev kk26 : Kd (List S37) := Kd.slice 37 k37
/-- The state of a slice of rows in a variable's block g, begun at w with the slice u, now v, which tells xs. -/
structure SetsSt (w W : World) (g base : Nat) (u v : Value) (xs : List (List S37)) : Prop where
 blk : W.heap[g]? = some (.cells #[v] 34 (0, 0))
 row : Kd.S kk26 26 W base (fun _ => True) v xs
 keep : KeepBut w W g u.ownBlock
 eff : Below 0 w W
 at_ : v.ownBlock = u.ownBlock ∨ ∃ b, v.ownBlock = some b ∧ w.heap.size ≤ b
theorem SetsSt.below {w W W' : World} {g base : Nat} {u v : Value} {xs : List (List S37)} (h : SetsSt w W g base u v xs) (hb : Below W.heap.size W W') : SetsSt w W' g base u v xs :=
 ⟨blk_below h.blk hb, Kd.S_below h.row hb, h.keep.trans (KeepBut.of_below hb g u.ownBlock) (.inl rfl), h.eff.trans ⟨hb.os, hb.tape, hb.output, hb.size, fun k hk => absurd hk (Nat.not_lt_zero k)⟩, h.at_⟩
theorem SetsSt.then_ {w W W' : World} {g base : Nat} {u v v' : Value} {xs ys : List (List S37)} (h : SetsSt w W g base u v xs) (k : SetsSt W W' g base v v' ys) : SetsSt w W' g base u v' ys :=
 ⟨k.blk, k.row, h.keep.trans k.keep h.at_, h.eff.trans k.eff, by
  rcases k.at_ with e | ⟨b, e, hb⟩
  ·rw [e]; exact h.at_
  ·exact .inr ⟨b, e, Nat.le_trans h.keep.1 hb⟩⟩
theorem SetsSt.self {w W : World} {g base : Nat} {u v : Value} {xs : List (List S37)} (h : SetsSt w W g base u v xs) : SetsSt W W g base v v xs :=
 ⟨h.blk, h.row, KeepBut.refl _ _ _, Below.refl _ _, .inl rfl⟩
/-- The slice appended to, and put back into its variable. -/
theorem SetsSt.push {w W w1 : World} {g base : Nat} {u v v1 : Value} {xs ys : List (List S37)} (h : SetsSt w W g base u v xs) (ho : Kd.S kk26 26 w1 base (fun _ => True) v1 ys) (hb : Below 0 W w1) (hg : W.grownBy w1 v.ownBlock) (hat : v1.ownBlock = v.ownBlock ∨ ∃ b, v1.ownBlock = some b ∧ W.heap.size ≤ b) : SetsSt w (w1.setCell ⟨g, 0, none⟩ v1) g base u v1 ys := by
 have hne : some g ≠ v.ownBlock := Kd.S_ne h.row h.blk (by decide)
 have hb1 : w1.heap[g]? = some (.cells #[v] 34 (0, 0)) := blk_grown h.blk hg hne
 refine ⟨blk_set hb1 0 v1, Kd.S_set ho hb1 (by decide) 0 v1, (h.keep.trans (KeepBut.of_grown hg g) h.at_).set_ 0 v1, h.eff.trans (hb.trans ⟨rfl, rfl, rfl, by simp [World.setCell], fun k hk => absurd hk (Nat.not_lt_zero k)⟩), ?_⟩
 rcases hat with e | ⟨b, e, hb⟩
 ·rw [e]; exact h.at_
 ·exact .inr ⟨b, e, Nat.le_trans h.keep.1 hb⟩
/-- A row of one's own of another type stays read whatever the state's calls turn. -/
theorem SetsSt.foot {w W : World} {g base b0 n c : Nat} {u v : Value} {xs : List (List S37)} {ok : Nat → Prop} {A : Option Addr} {ys : List S37} (h : SetsSt w W g base u v xs) (hr : k37.R 37 W b0 ok (.slice A n c) ys) : ∀ W', KeepBut W W' g v.ownBlock → k37.C W' A ys.length ys := fun W' hk => by
 have h1 := Kd.R_types hr h.blk (by decide)
 have h2 := Kd.R_apart' h1 (Kd.S_typed h.row) (by decide)
 exact (Kd.R_reads' (Kd.R_step h2 (w1 := W') (fun k hk' hlt => hk.2 k hlt hk'.1.2 hk'.2))).2.2
set_option maxHeartbeats 8000000 in
set_option maxRecDepth 100000 in
theorem spec_bdSets.calls (k : Nat) : ∀ (A0 : Option Addr) (c0 : Nat) (l0 : List (S37)) (A1 : Option Addr) (c1 : Nat) (l1 : List (S37)) (a2 : Int) (g base : Nat) (vO0 : Value) (a3 r : List (List S37)) (w : World) (hr0 : ∀ W', KeepBut w W' g vO0.ownBlock → Kd.C k37 W' A0 l0.length l0) (hc0 : l0.length ≤ c0) (hr1 : ∀ W', KeepBut w W' g vO0.ownBlock → Kd.C k37 W' A1 l1.length l1) (hc1 : l1.length ≤ c1)
  (hbase : base ≤ w.heap.size) (hst : SetsSt w w g base vO0 vO0 a3) (h : spec_bdSets.f k l0 l1 a2 a3 = some r),
  Calls Try.prog 26 #[.slice A0 l0.length c0, .slice A1 l1.length c1, .int .i64 a2, .pointer (some ⟨g, 0, none⟩)] w fun e w' => e = .returned (.tuple #[]) ∧ ∃ vO' : Value, SetsSt w w' g base vO0 vO' r := by
 induction k using Nat.strongRecOn with
 | _ k ih =>
 intro A0 c0 l0 A1 c1 l1 a2 g base vO0 a3 r w hr0 hc0 hr1 hc1 hbase hst h
 cases k with
 | zero => exact absurd h (by simp [spec_bdSets.f])
 | succ k =>
 simp only [spec_bdSets.f] at h
 have hu37 := Try.underlying37
 have HF0 := Aside0.mk hr0
 have HC0 := Aside0.mk hc0
 clear hr0 hc0
 have HF1 := Aside0.mk hr1
 have HC1 := Aside0.mk hc1
 clear hr1 hc1
 have HBS := Aside0.mk hbase
 have HST := Aside0.mk hst
 clear hst hbase
 have H' := Aside0.mk h
 clear h
 have ih := Aside0.mk ih
 go_enter Try.func26, Try.ntmps26
 go_wp2
 go_loopg [8] k (fun kq v8 w' => ∃ (x7_1 : List (List S37)) (vO : Value) (x8_1 : Int), v8 = .int .i64 x8_1 ∧ Aside0 (spec_bdSets.l0 kq l0 l1 x7_1 x8_1 = some r) ∧ Aside0 (kq ≤ k) ∧ Aside0 (SetsSt w w' g base vO0 vO x7_1))
 case atStart => exact ⟨a3, vO0, a2, by first | rfl | (simp; done), H', ⟨Nat.le_refl _⟩, HST⟩
 case round =>
  clear H' HST
  obtain ⟨x7_1, vO, x8_1, rfl, HA, HK1, HST⟩ := hrel
  have HR0 := Aside0.mk (HF0.out wr HST.out.keep)
  have HR1 := Aside0.mk (HF1.out wr HST.out.keep)
  have HB := Aside0.mk (Below.refl wr.heap.size wr)
  have HWR := Aside0.mk (Nat.le_trans HBS.out HST.out.keep.1)
  cases gk with
  | zero => exact absurd HA.out (by simp [spec_bdSets.l0])
  | succ k1 =>
   have H := HA.out
   clear HA
   simp only [spec_bdSets.l0] at H
   by_cases c5 : x8_1 < (l0.length : Int)
   ·rw [if_pos c5] at H
    have c5b0 : decide (x8_1 < (l0.length : Int)) = true := decide_eq_true c5
    clear c5
    obtain ⟨y168, hy168⟩ : ∃ y_ : List (S37), y_ = (([] : List (S37))) := ⟨_, rfl⟩
    replace H : (if y168.length + l1.length < 8796093022208 then ((some (y168 ++ l1 : List (S37))).bind fun y171 => (if 0 ≤ x8_1 then ((some (([(⟨(rd_T37 l0 x8_1).f0, (rd_T37 l0 x8_1).f1⟩ : S37)] : List (S37)) : List (S37))).bind fun y175 => (if y171.length + y175.length < 8796093022208 then ((some (y171 ++ y175 : List (S37))).bind fun y178 => ((spec_bdBand.f k1 y178).bind fun t181 => (if (t181.length : Int) = (y178.length : Int) then (if x7_1.length < 5000000000000 then ((spec_bdSets.f k1 l0 y178 (wrap64 (x8_1 + 1)) (x7_1 ++ [y178])).bind fun t184 => (spec_bdSets.l0 k1 l0 l1 t184 (wrap64 (x8_1 + 1)))) else (none)) else (spec_bdSets.l0 k1 l0 l1 x7_1 (wrap64 (x8_1 + 1)))))) else (none))) else (none))) else (none)) = some r := by first | (rw [hy168]; with_reducible exact H) | (have H2_ := (Option.bind_some _ _).symm.trans H; rw [hy168]; with_reducible exact H2_) | (have H2_ := (Option.bind_some _ _).symm.trans H; with_reducible exact H2_) | with_reducible exact H | (rw [hy168]; exact H) | exact H
    have Ny168 := Aside0.mk hy168
    clear hy168
    by_cases c6 : y168.length + l1.length < 8796093022208
    ·rw [if_pos c6] at H
     have LMc6 := Aside0.mk c6
     clear c6
     obtain ⟨y171, hy171⟩ : ∃ y_ : List (S37), y_ = (y168 ++ l1) := ⟨_, rfl⟩
     replace H : (if 0 ≤ x8_1 then ((some (([(⟨(rd_T37 l0 x8_1).f0, (rd_T37 l0 x8_1).f1⟩ : S37)] : List (S37)) : List (S37))).bind fun y175 => (if y171.length + y175.length < 8796093022208 then ((some (y171 ++ y175 : List (S37))).bind fun y178 => ((spec_bdBand.f k1 y178).bind fun t181 => (if (t181.length : Int) = (y178.length : Int) then (if x7_1.length < 5000000000000 then ((spec_bdSets.f k1 l0 y178 (wrap64 (x8_1 + 1)) (x7_1 ++ [y178])).bind fun t184 => (spec_bdSets.l0 k1 l0 l1 t184 (wrap64 (x8_1 + 1)))) else (none)) else (spec_bdSets.l0 k1 l0 l1 x7_1 (wrap64 (x8_1 + 1)))))) else (none))) else (none)) = some r := by first | (rw [hy171]; with_reducible exact H) | (have H2_ := (Option.bind_some _ _).symm.trans H; rw [hy171]; with_reducible exact H2_) | (have H2_ := (Option.bind_some _ _).symm.trans H; with_reducible exact H2_) | with_reducible exact H | (rw [hy171]; exact H) | exact H
     have Ny171 := Aside0.mk hy171
     clear hy171
     by_cases c7 : 0 ≤ x8_1
     ·rw [if_pos c7] at H
      have c7b0 : decide (0 ≤ x8_1) = true := decide_eq_true c7
      clear c7
      obtain ⟨y175, hy175⟩ : ∃ y_ : List (S37), y_ = (([(⟨(rd_T37 l0 x8_1).f0, (rd_T37 l0 x8_1).f1⟩ : S37)] : List (S37))) := ⟨_, rfl⟩
      replace H : (if y171.length + y175.length < 8796093022208 then ((some (y171 ++ y175 : List (S37))).bind fun y178 => ((spec_bdBand.f k1 y178).bind fun t181 => (if (t181.length : Int) = (y178.length : Int) then (if x7_1.length < 5000000000000 then ((spec_bdSets.f k1 l0 y178 (wrap64 (x8_1 + 1)) (x7_1 ++ [y178])).bind fun t184 => (spec_bdSets.l0 k1 l0 l1 t184 (wrap64 (x8_1 + 1)))) else (none)) else (spec_bdSets.l0 k1 l0 l1 x7_1 (wrap64 (x8_1 + 1)))))) else (none)) = some r := by first | (rw [hy175]; with_reducible exact H) | (have H2_ := (Option.bind_some _ _).symm.trans H; rw [hy175]; with_reducible exact H2_) | (have H2_ := (Option.bind_some _ _).symm.trans H; with_reducible exact H2_) | with_reducible exact H | (rw [hy175]; exact H) | exact H
      have Ny175 := Aside0.mk hy175
      clear hy175
      by_cases c8 : y171.length + y175.length < 8796093022208
      ·rw [if_pos c8] at H
       have LMc8 := Aside0.mk c8
       clear c8
       obtain ⟨y178, hy178⟩ : ∃ y_ : List (S37), y_ = (y171 ++ y175) := ⟨_, rfl⟩
       replace H : ((spec_bdBand.f k1 y178).bind fun t181 => (if (t181.length : Int) = (y178.length : Int) then (if x7_1.length < 5000000000000 then ((spec_bdSets.f k1 l0 y178 (wrap64 (x8_1 + 1)) (x7_1 ++ [y178])).bind fun t184 => (spec_bdSets.l0 k1 l0 l1 t184 (wrap64 (x8_1 + 1)))) else (none)) else (spec_bdSets.l0 k1 l0 l1 x7_1 (wrap64 (x8_1 + 1))))) = some r := by first | (rw [hy178]; with_reducible exact H) | (have H2_ := (Option.bind_some _ _).symm.trans H; rw [hy178]; with_reducible exact H2_) | (have H2_ := (Option.bind_some _ _).symm.trans H; with_reducible exact H2_) | with_reducible exact H | (rw [hy178]; exact H) | exact H
       have Ny178 := Aside0.mk hy178
       clear hy178
       replace H := Option.bind_eq_some_iff.mp H
       obtain ⟨t181, A90, H⟩ := H
       replace H : (if (t181.length : Int) = (y178.length : Int) then (if x7_1.length < 5000000000000 then ((spec_bdSets.f k1 l0 y178 (wrap64 (x8_1 + 1)) (x7_1 ++ [y178])).bind fun t184 => (spec_bdSets.l0 k1 l0 l1 t184 (wrap64 (x8_1 + 1)))) else (none)) else (spec_bdSets.l0 k1 l0 l1 x7_1 (wrap64 (x8_1 + 1)))) = some r := H
       have A9 := Aside0.mk A90
       clear A90
       by_cases c10 : (t181.length : Int) = (y178.length : Int)
       ·rw [if_pos c10] at H
        have c10b0 : ((t181.length : Int) == (y178.length : Int)) = true := beq_iff_eq.mpr c10
        have c10b1 : ((t181.length : Int) != (y178.length : Int)) = false := bne_eq_false_iff_eq.mpr c10
        have c10b2 : (t181.length == y178.length) = true := by first | simpa using c10 | (simp at c10 ⊢; omega)
        clear c10
        by_cases c12 : x7_1.length < 5000000000000
        ·rw [if_pos c12] at H
         have c12 := Aside0.mk c12
         replace H := Option.bind_eq_some_iff.mp H
         obtain ⟨t184, A110, H⟩ := H
         have A11 := Aside0.mk A110
         clear A110
         have H' := Aside0.mk H
         clear H
         try go_wp2
         have n0_ := Aside0.mk (below_drew1 HB.out)
         clear HB
         have HB := n0_
         clear n0_
         have p174 : 0 ≤ (x8_1 : Int) := odt_
         have q174 : x8_1 < (l0.length : Int) := odt_
         obtain ⟨ad174, e174, hx174_0, hx174_1⟩ := at_T37 HR0.out x8_1 p174 q174
         have hw174_1 := hx174_1
         have hw174_0 := hx174_0
         cases e174
         replace hx174_0 := (HB.out.cell (World.block_lt_of_cell? wr _ hx174_0)).trans hx174_0
         replace hx174_1 := (HB.out.cell (World.block_lt_of_cell? wr _ hx174_1)).trans hx174_1
         replace p174 := eq_true p174
         replace q174 := eq_true q174
         refine start_ (n := 10) (S := fun w' => w'.cell? (ad174.add ((x8_1).toNat * 2)) = some (.int .i64 ((rd_T37 l0 x8_1).f0)) ∧ w'.cell? ⟨(ad174.add ((x8_1).toNat * 2)).block, (ad174.add ((x8_1).toNat * 2)).off + 1, none⟩ = some (.int .i64 ((rd_T37 l0 x8_1).f1))) (ds := []) #[false, false, false, false, false, false, false, false, false, false] (by kernel_rfl) rfl rfl ⟨((HB.out.cell (World.block_lt_of_cell? wr _ hw174_0)).trans hw174_0), ((HB.out.cell (World.block_lt_of_cell? wr _ hw174_1)).trans hw174_1)⟩ (fun hHeld => ?_); refine with_tabW spec_bdSets.tab3 spec_bdSets.bits3 (fun HT_ HW_ => ?_)
         generalize wr.drew = w12 at HB hx174_0 hx174_1 hHeld ⊢
         refine pure_ (i := 1) (N := some 18) (v := ?_) (a' := ?_) #[false, true, false, false, false, false, false, false, false, false] rfl rfl (any_of HT_.out (by kernel_rfl)) (fun _ _ _ h => h) (Or.inl ⟨by rfl, ?_⟩) ?_ ?_
         rotate_left
         ·intro w'
          go_simp
          with_reducible rfl
         rotate_left
         ·simp only [Act.put, sA, sB, sC, i64_w, i32_w]
          rfl
         refine pure_ (i := 3) (N := some 20) (v := ?_) (a' := ?_) #[false, true, false, true, false, false, false, false, false, false] rfl rfl (any_of HT_.out (by kernel_rfl)) (fun _ _ _ h => h) (Or.inl ⟨by rfl, ?_⟩) ?_ ?_
         rotate_left
         ·intro w'
          go_simp
          with_reducible rfl
         rotate_left
         ·simp only [Act.put, sA, sB, sC, i64_w, i32_w]
          rfl
         refine pure_ (i := 4) (N := some 21) (v := ?_) (a' := ?_) #[false, true, false, true, true, false, false, false, false, false] rfl rfl (any_of HT_.out (by kernel_rfl)) (fun _ _ _ h => h) (Or.inl ⟨by rfl, ?_⟩) ?_ ?_
         rotate_left
         ·intro w'
          go_simp
          with_reducible rfl
         rotate_left
         ·simp only [Act.put, sA, sB, sC, i64_w, i32_w]
          rfl
         refine pure_ (i := 5) (N := some 22) (v := ?_) (a' := ?_) #[false, true, false, true, true, true, false, false, false, false] rfl rfl (any_of HT_.out (by kernel_rfl)) (fun _ _ _ h => h) (Or.inl ⟨by rfl, ?_⟩) ?_ ?_
         rotate_left
         ·intro w'
          go_simp
          with_reducible rfl
         rotate_left
         ·simp only [Act.put, sA, sB, sC, i64_w, i32_w]
          rfl
         refine take_ (i := 6) (N := some 23) (v := ?_) (a' := ?_) #[false, true, false, true, true, true, true, false, false, false] rfl rfl (take_ofW HT_.out HW_.out (by kernel_rfl)) (fun _ _ _ h => h) (Or.inl ⟨by rfl, ?_⟩) hHeld ?_ ?_
         rotate_left
         ·rintro w' ⟨s0, s1⟩
          go_simp
          with_reducible rfl
         rotate_left
         ·simp only [Act.put, sA, sB, sC, i64_w, i32_w]
          rfl
         refine join_ (σ := Value × Value × Value) 2 #[true, true, true, true, true, true, true, true, false, false] (fun s_ => [(17, s_.1), (19, s_.2.1), (24, s_.2.2)]) (fun s_ w' => (w'.cell? (ad174.add ((x8_1).toNat * 2)) = some (.int .i64 ((rd_T37 l0 x8_1).f0)) ∧ w'.cell? ⟨(ad174.add ((x8_1).toNat * 2)).block, (ad174.add ((x8_1).toNat * 2)).off + 1, none⟩ = some (.int .i64 ((rd_T37 l0 x8_1).f1))) ∧ (Kd.R k37 37 w' wr.heap.size (fun k_ => some k_ ≠ (s_.2.2 : Value).ownBlock) s_.2.1 y171) ∧ (Kd.R k37 37 w' wr.heap.size (fun k_ => some k_ ≠ (s_.2.1 : Value).ownBlock) s_.2.2 y175) ∧ (Below wr.heap.size wr w')) ?_ ?_
         rotate_left
         ·intro hCont
          refine two_ (i := 0) (j := 7) (Ni := some 17) (Nj := some 24) #[true, true, false, true, true, true, true, false, false, false] #[false, true, false, true, true, true, true, true, false, false] rfl rfl rfl rfl (two_of HT_.out (by kernel_rfl)) (by decide) (by decide) (fun K hK => ?_) (fun K hK => ?_)
          ·skip
           refine Kd.R_lit_step k37 _ 37 ?hg (N := 17) ?hd (xs := ([] : List (S37))) (inner := []) (ok := fun _ => True) (okp := fun _ => True) ?hr ?hp (fun _ hk => hk) trivial (Below.refl _ _) (Nat.le_refl _) (by simp) ?_; (case hd => rfl); (case hg => rfl); (case hr => first | (go_simp; done) | (go_simp; rfl)); (case hp => exact (Reps.none _ _))
           intro v169 w13 ho14 hb hg_ hnew_
           clear hg_ hnew_
           (first | rw [← Ny168.out] at ho14 | (simp only [Int.reduceToNat] at ho14; rw [← Ny168.out] at ho14))
           have n0_ := Aside0.mk (Kd.R_lower ho14 (below_size (hb_)))
           have n1_ := Aside0.mk (below_step (hb_) hb)
           clear HB
           have HO170 := n0_
           have HB := n1_
           clear n0_ n1_
           clear hb ho14
           refine hK.out _ _ ⟨((HB.out.cell (World.block_lt_of_cell? wr _ hw174_0)).trans hw174_0), ((HB.out.cell (World.block_lt_of_cell? wr _ hw174_1)).trans hw174_1)⟩ (fun hHeld => ?_)
           clear hK K
           refine norm_ (a' := ?_) ?_ ?_
           rotate_left
           ·show Act.put _ (some 17) _ = _
            simp only [Act.put, sA, sB, sC, i64_w, i32_w]
            rfl
           refine two_ (i := 2) (j := 7) (Ni := some 19) (Nj := some 24) #[true, true, true, true, true, true, true, false, false, false] #[true, true, false, true, true, true, true, true, false, false] rfl rfl rfl rfl (two_of HT_.out (by kernel_rfl)) (by decide) (by decide) (fun K hK => ?_) (fun K hK => ?_)
           ·skip
            refine Kd.R_append_rows_step k37 (w0 := wr) wr.heap.size (by rfl) (.tmp 17) (.tmp 18) 26 37 (.agg #[(.int .i64 0), (.int .i64 0)]) 16 rfl Try.underlying26 info37 rfl (by decide) (by omega) v169 y168 l1 _ _ _ (fun _ => True) (fun _ => False) rfl rfl ?aO ?aR (fun _ _ h => h) (fun _ h => h.elim) ?aF ?aB ?aS ?aL ?_
            (case aR => repeat (first | exact (Kd.C_below HR1.out HB.out) | (with_reducible refine Kd.C_alloc ?_ _) | (with_reducible refine Kd.C_drewN ?_ _) | (with_reducible refine Kd.C_drew ?_)))
            (case aB => exact (hb_))
            (case aF => exact (fun _ _ => trivial))
            (case aO => exact (rk_ HO170.out))
            (case aS => exact (below_size (hb_)))
            (case aL => have := LMc6.out; omega)
            intro v172 w15 ho hb hg hat
            rw [← Ny171.out] at ho
            have n0_ := Aside0.mk (hb)
            have n1_ := Aside0.mk (ho)
            clear HB
            clear HO170
            have HB := n0_
            have HO173 := n1_
            clear n0_ n1_
            clear ho hb hg hat
            refine hK.out _ _ ⟨((HB.out.cell (World.block_lt_of_cell? wr _ hw174_0)).trans hw174_0), ((HB.out.cell (World.block_lt_of_cell? wr _ hw174_1)).trans hw174_1)⟩ (fun hHeld => ?_)
            clear hK K
            refine norm_ (a' := ?_) ?_ ?_
            rotate_left
            ·show Act.put _ (some 19) _ = _
             simp only [Act.put, sA, sB, sC, i64_w, i32_w]
             rfl
            refine one_ (i := 7) (N := some 24) #[true, true, true, true, true, true, true, true, false, false] rfl rfl (one_of HT_.out (by kernel_rfl)) (by decide) (fun K hK => ?_)
            refine Kd.R_lit_step k37 _ 37 ?hg (N := 24) ?hd (xs := ([(⟨(rd_T37 l0 x8_1).f0, (rd_T37 l0 x8_1).f1⟩ : S37)] : List (S37))) (inner := [.int .i64 ((rd_T37 l0 x8_1).f0), .int .i64 ((rd_T37 l0 x8_1).f1)]) (ok := fun _ => True) (okp := fun _ => True) ?hr ?hp (fun _ hk => hk) trivial (Below.refl _ _) (Nat.le_refl _) (by simp) ?_; (case hd => rfl); (case hg => rfl); (case hr => first | (go_simp; done) | (go_simp; rfl)); (case hp => exact (Reps.c2 (show Kd.M k37 _ _ _ (⟨(rd_T37 l0 x8_1).f0, (rd_T37 l0 x8_1).f1⟩ : S37) [.int .i64 ((rd_T37 l0 x8_1).f0), .int .i64 ((rd_T37 l0 x8_1).f1)] from (k37_mkM _ _ _ (⟨(rd_T37 l0 x8_1).f0, (rd_T37 l0 x8_1).f1⟩ : S37) )) (Reps.none _ _)))
            intro v176 w16 ho17 hb hg_ hnew_
            clear hg_ hnew_
            (first | rw [← Ny175.out] at ho17 | (simp only [Int.reduceToNat] at ho17; rw [← Ny175.out] at ho17))
            have n0_ := Aside0.mk (Kd.R_elder' (rk_ HO173.out) (Kd.R_base ho17) hb)
            have n1_ := Aside0.mk (Kd.R_lower (Kd.R_new' ho17 (Kd.R_lt (rk_ HO173.out))) (below_size (hb_)))
            have n2_ := Aside0.mk (below_step (hb_) hb)
            clear HO173
            clear HB
            have HO173 := n0_
            have HO177 := n1_
            have HB := n2_
            clear n0_ n1_ n2_
            clear hb ho17
            refine hK.out _ _ ⟨((HB.out.cell (World.block_lt_of_cell? wr _ hw174_0)).trans hw174_0), ((HB.out.cell (World.block_lt_of_cell? wr _ hw174_1)).trans hw174_1)⟩ (fun hHeld => ?_)
            clear hK K
            refine norm_ (a' := ?_) ?_ ?_
            rotate_left
            ·show Act.put _ (some 24) _ = _
             simp only [Act.put, sA, sB, sC, i64_w, i32_w]
             rfl
            exact norm_ (by simp only [putAll, Act.put, List.setIfInBounds_toArray, List.set_cons_zero, List.set_cons_succ]) (hCont (v169, v172, v176) _ ⟨hHeld, (by (with_reducible repeat (first | apply Kd.R_alloc | apply Kd.R_drewN | apply Kd.R_drew)); exact Kd.R_mono HO173.out (fun _ hk => hk.2)), (by (with_reducible repeat (first | apply Kd.R_alloc | apply Kd.R_drewN | apply Kd.R_drew)); exact Kd.R_mono HO177.out (fun _ hk => hk.2)), (hb_)⟩)
           ·skip
            refine Kd.R_lit_step k37 _ 37 ?hg (N := 24) ?hd (xs := ([(⟨(rd_T37 l0 x8_1).f0, (rd_T37 l0 x8_1).f1⟩ : S37)] : List (S37))) (inner := [.int .i64 ((rd_T37 l0 x8_1).f0), .int .i64 ((rd_T37 l0 x8_1).f1)]) (ok := fun _ => True) (okp := fun _ => True) ?hr ?hp (fun _ hk => hk) trivial (Below.refl _ _) (Nat.le_refl _) (by simp) ?_; (case hd => rfl); (case hg => rfl); (case hr => first | (go_simp; done) | (go_simp; rfl)); (case hp => exact (Reps.c2 (show Kd.M k37 _ _ _ (⟨(rd_T37 l0 x8_1).f0, (rd_T37 l0 x8_1).f1⟩ : S37) [.int .i64 ((rd_T37 l0 x8_1).f0), .int .i64 ((rd_T37 l0 x8_1).f1)] from (k37_mkM _ _ _ (⟨(rd_T37 l0 x8_1).f0, (rd_T37 l0 x8_1).f1⟩ : S37) )) (Reps.none _ _)))
            intro v176 w15 ho16 hb hg_ hnew_
            clear hg_ hnew_
            (first | rw [← Ny175.out] at ho16 | (simp only [Int.reduceToNat] at ho16; rw [← Ny175.out] at ho16))
            have n0_ := Aside0.mk (Kd.R_elder' (rk_ HO170.out) (Kd.R_base ho16) hb)
            have n1_ := Aside0.mk (Kd.R_lower (Kd.R_new' ho16 (Kd.R_lt (rk_ HO170.out))) (below_size (hb_)))
            have n2_ := Aside0.mk (below_step (hb_) hb)
            clear HO170
            clear HB
            have HO170 := n0_
            have HO177 := n1_
            have HB := n2_
            clear n0_ n1_ n2_
            clear hb ho16
            refine hK.out _ _ ⟨((HB.out.cell (World.block_lt_of_cell? wr _ hw174_0)).trans hw174_0), ((HB.out.cell (World.block_lt_of_cell? wr _ hw174_1)).trans hw174_1)⟩ (fun hHeld => ?_)
            clear hK K
            refine norm_ (a' := ?_) ?_ ?_
            rotate_left
            ·show Act.put _ (some 24) _ = _
             simp only [Act.put, sA, sB, sC, i64_w, i32_w]
             rfl
            refine one_ (i := 2) (N := some 19) #[true, true, true, true, true, true, true, true, false, false] rfl rfl (one_of HT_.out (by kernel_rfl)) (by decide) (fun K hK => ?_)
            refine Kd.R_append_rows_step k37 (w0 := wr) wr.heap.size (by rfl) (.tmp 17) (.tmp 18) 26 37 (.agg #[(.int .i64 0), (.int .i64 0)]) 16 rfl Try.underlying26 info37 rfl (by decide) (by omega) v169 y168 l1 _ _ _ (fun k_ => some k_ ≠ (v176 : Value).ownBlock) (fun _ => False) rfl rfl ?aO ?aR (fun _ _ h => h) (fun _ h => h.elim) ?aF ?aB ?aS ?aL ?_
            (case aR => repeat (first | exact (Kd.C_below HR1.out HB.out) | (with_reducible refine Kd.C_alloc ?_ _) | (with_reducible refine Kd.C_drewN ?_ _) | (with_reducible refine Kd.C_drew ?_)))
            (case aB => exact (hb_))
            (case aF => exact (fun k_ hk => Kd.fresh' (Kd.R_lt (rk_ HO177.out)) k_ hk))
            (case aO => exact (by (with_reducible repeat (first | apply Kd.R_alloc | apply Kd.R_drewN | apply Kd.R_drew)); exact Kd.R_mono HO170.out (fun _ hk => hk.2)))
            (case aS => exact (below_size (hb_)))
            (case aL => have := LMc6.out; omega)
            intro v172 w17 ho hb hg hat
            rw [← Ny171.out] at ho
            have n0_ := Aside0.mk (Kd.R_after (ok := (fun _ => True)) (rk_ HO177.out) hg hat)
            have n1_ := Aside0.mk (hb)
            have n2_ := Aside0.mk (ho)
            clear HO177
            clear HB
            clear HO170
            have HO177 := n0_
            have HB := n1_
            have HO173 := n2_
            clear n0_ n1_ n2_
            clear ho hb hg hat
            refine hK.out _ _ ⟨((HB.out.cell (World.block_lt_of_cell? wr _ hw174_0)).trans hw174_0), ((HB.out.cell (World.block_lt_of_cell? wr _ hw174_1)).trans hw174_1)⟩ (fun hHeld => ?_)
            clear hK K
            refine norm_ (a' := ?_) ?_ ?_
            rotate_left
            ·show Act.put _ (some 19) _ = _
             simp only [Act.put, sA, sB, sC, i64_w, i32_w]
             rfl
            exact norm_ (by simp only [putAll, Act.put, List.setIfInBounds_toArray, List.set_cons_zero, List.set_cons_succ]) (hCont (v169, v172, v176) _ ⟨hHeld, (rk_ HO173.out), (by (with_reducible repeat (first | apply Kd.R_alloc | apply Kd.R_drewN | apply Kd.R_drew)); exact Kd.R_mono HO177.out (fun _ hk => hk.2)), (hb_)⟩)
          ·skip
           refine Kd.R_lit_step k37 _ 37 ?hg (N := 24) ?hd (xs := ([(⟨(rd_T37 l0 x8_1).f0, (rd_T37 l0 x8_1).f1⟩ : S37)] : List (S37))) (inner := [.int .i64 ((rd_T37 l0 x8_1).f0), .int .i64 ((rd_T37 l0 x8_1).f1)]) (ok := fun _ => True) (okp := fun _ => True) ?hr ?hp (fun _ hk => hk) trivial (Below.refl _ _) (Nat.le_refl _) (by simp) ?_; (case hd => rfl); (case hg => rfl); (case hr => first | (go_simp; done) | (go_simp; rfl)); (case hp => exact (Reps.c2 (show Kd.M k37 _ _ _ (⟨(rd_T37 l0 x8_1).f0, (rd_T37 l0 x8_1).f1⟩ : S37) [.int .i64 ((rd_T37 l0 x8_1).f0), .int .i64 ((rd_T37 l0 x8_1).f1)] from (k37_mkM _ _ _ (⟨(rd_T37 l0 x8_1).f0, (rd_T37 l0 x8_1).f1⟩ : S37) )) (Reps.none _ _)))
           intro v176 w13 ho14 hb hg_ hnew_
           clear hg_ hnew_
           (first | rw [← Ny175.out] at ho14 | (simp only [Int.reduceToNat] at ho14; rw [← Ny175.out] at ho14))
           have n0_ := Aside0.mk (Kd.R_lower ho14 (below_size (hb_)))
           have n1_ := Aside0.mk (below_step (hb_) hb)
           clear HB
           have HO177 := n0_
           have HB := n1_
           clear n0_ n1_
           clear hb ho14
           refine hK.out _ _ ⟨((HB.out.cell (World.block_lt_of_cell? wr _ hw174_0)).trans hw174_0), ((HB.out.cell (World.block_lt_of_cell? wr _ hw174_1)).trans hw174_1)⟩ (fun hHeld => ?_)
           clear hK K
           refine norm_ (a' := ?_) ?_ ?_
           rotate_left
           ·show Act.put _ (some 24) _ = _
            simp only [Act.put, sA, sB, sC, i64_w, i32_w]
            rfl
           refine one_ (i := 0) (N := some 17) #[true, true, false, true, true, true, true, true, false, false] rfl rfl (one_of HT_.out (by kernel_rfl)) (by decide) (fun K hK => ?_)
           refine Kd.R_lit_step k37 _ 37 ?hg (N := 17) ?hd (xs := ([] : List (S37))) (inner := []) (ok := fun _ => True) (okp := fun _ => True) ?hr ?hp (fun _ hk => hk) trivial (Below.refl _ _) (Nat.le_refl _) (by simp) ?_; (case hd => rfl); (case hg => rfl); (case hr => first | (go_simp; done) | (go_simp; rfl)); (case hp => exact (Reps.none _ _))
           intro v169 w15 ho16 hb hg_ hnew_
           clear hg_ hnew_
           (first | rw [← Ny168.out] at ho16 | (simp only [Int.reduceToNat] at ho16; rw [← Ny168.out] at ho16))
           have n0_ := Aside0.mk (Kd.R_elder' (rk_ HO177.out) (Kd.R_base ho16) hb)
           have n1_ := Aside0.mk (Kd.R_lower (Kd.R_new' ho16 (Kd.R_lt (rk_ HO177.out))) (below_size (hb_)))
           have n2_ := Aside0.mk (below_step (hb_) hb)
           clear HO177
           clear HB
           have HO177 := n0_
           have HO170 := n1_
           have HB := n2_
           clear n0_ n1_ n2_
           clear hb ho16
           refine hK.out _ _ ⟨((HB.out.cell (World.block_lt_of_cell? wr _ hw174_0)).trans hw174_0), ((HB.out.cell (World.block_lt_of_cell? wr _ hw174_1)).trans hw174_1)⟩ (fun hHeld => ?_)
           clear hK K
           refine norm_ (a' := ?_) ?_ ?_
           rotate_left
           ·show Act.put _ (some 17) _ = _
            simp only [Act.put, sA, sB, sC, i64_w, i32_w]
            rfl
           refine one_ (i := 2) (N := some 19) #[true, true, true, true, true, true, true, true, false, false] rfl rfl (one_of HT_.out (by kernel_rfl)) (by decide) (fun K hK => ?_)
           refine Kd.R_append_rows_step k37 (w0 := wr) wr.heap.size (by rfl) (.tmp 17) (.tmp 18) 26 37 (.agg #[(.int .i64 0), (.int .i64 0)]) 16 rfl Try.underlying26 info37 rfl (by decide) (by omega) v169 y168 l1 _ _ _ (fun k_ => some k_ ≠ (v176 : Value).ownBlock) (fun _ => False) rfl rfl ?aO ?aR (fun _ _ h => h) (fun _ h => h.elim) ?aF ?aB ?aS ?aL ?_
           (case aR => repeat (first | exact (Kd.C_below HR1.out HB.out) | (with_reducible refine Kd.C_alloc ?_ _) | (with_reducible refine Kd.C_drewN ?_ _) | (with_reducible refine Kd.C_drew ?_)))
           (case aB => exact (hb_))
           (case aF => exact (fun k_ hk => Kd.fresh' (Kd.R_lt (rk_ HO177.out)) k_ hk))
           (case aO => exact (by (with_reducible repeat (first | apply Kd.R_alloc | apply Kd.R_drewN | apply Kd.R_drew)); exact Kd.R_mono HO170.out (fun _ hk => hk.2)))
           (case aS => exact (below_size (hb_)))
           (case aL => have := LMc6.out; omega)
           intro v172 w17 ho hb hg hat
           rw [← Ny171.out] at ho
           have n0_ := Aside0.mk (Kd.R_after (ok := (fun _ => True)) (rk_ HO177.out) hg hat)
           have n1_ := Aside0.mk (hb)
           have n2_ := Aside0.mk (ho)
           clear HO177
           clear HB
           clear HO170
           have HO177 := n0_
           have HB := n1_
           have HO173 := n2_
           clear n0_ n1_ n2_
           clear ho hb hg hat
           refine hK.out _ _ ⟨((HB.out.cell (World.block_lt_of_cell? wr _ hw174_0)).trans hw174_0), ((HB.out.cell (World.block_lt_of_cell? wr _ hw174_1)).trans hw174_1)⟩ (fun hHeld => ?_)
           clear hK K
           refine norm_ (a' := ?_) ?_ ?_
           rotate_left
           ·show Act.put _ (some 19) _ = _
            simp only [Act.put, sA, sB, sC, i64_w, i32_w]
            rfl
           exact norm_ (by simp only [putAll, Act.put, List.setIfInBounds_toArray, List.set_cons_zero, List.set_cons_succ]) (hCont (v169, v172, v176) _ ⟨hHeld, (rk_ HO173.out), (by (with_reducible repeat (first | apply Kd.R_alloc | apply Kd.R_drewN | apply Kd.R_drew)); exact Kd.R_mono HO177.out (fun _ hk => hk.2)), (hb_)⟩)
         rintro ⟨v169, v172, v176⟩ w18 ⟨hS_, h0_, h1_, h2_⟩
         have n0_ : Aside0 (Kd.R k37 37 w18 wr.heap.size (fun k_ => some k_ ≠ (v176 : Value).ownBlock) v172 y171) := ⟨h0_⟩
         have n1_ : Aside0 (Kd.R k37 37 w18 wr.heap.size (fun k_ => some k_ ≠ (v172 : Value).ownBlock) v176 y175) := ⟨h1_⟩
         have n2_ : Aside0 (Below wr.heap.size wr w18) := ⟨h2_⟩
         clear HB
         clear h0_ h1_ h2_
         have HO173 := n0_
         have HO177 := n1_
         have HB := n2_
         clear n0_ n1_ n2_
         have hHeld : w18.cell? (ad174.add ((x8_1).toNat * 2)) = some (.int .i64 ((rd_T37 l0 x8_1).f0)) ∧ w18.cell? ⟨(ad174.add ((x8_1).toNat * 2)).block, (ad174.add ((x8_1).toNat * 2)).off + 1, none⟩ = some (.int .i64 ((rd_T37 l0 x8_1).f1)) := hS_
         obtain ⟨Ao20, co20, eo20⟩ := Kd.R_slice HO177.out
         (first | subst eo20 | (injection eo20 with f1_ f2_ f3_; have f4_ := f1_.symm; have f5_ := f3_.symm; clear f1_ f2_ f3_; subst f4_; subst f5_))
         refine norm_ (a' := ?_) ?_ ?_
         rotate_left
         ·simp only [putAll, Act.put, List.setIfInBounds_toArray, List.set_cons_zero, List.set_cons_succ]
          rfl
         refine one_ (i := 8) (N := some 25) #[true, true, true, true, true, true, true, true, true, false] rfl rfl (one_of HT_.out (by kernel_rfl)) (by decide) (fun K hK => ?_)
         refine Kd.R_append_rows_step k37 (w0 := wr) wr.heap.size (by rfl) (.tmp 19) (.tmp 24) 26 37 (.agg #[(.int .i64 0), (.int .i64 0)]) 16 rfl Try.underlying26 info37 rfl (by decide) (by omega) v172 y171 y175 _ _ _ (fun k_ => some k_ ≠ (.slice Ao20 y175.length co20 : Value).ownBlock) (fun _ => False) rfl rfl ?aO ?aR (fun _ _ h => h) (fun _ h => h.elim) ?aF ?aB ?aS ?aL ?_
         (case aR => repeat (first | exact (Kd.R_reads' HO177.out).2.2 | (with_reducible refine Kd.C_alloc ?_ _) | (with_reducible refine Kd.C_drewN ?_ _) | (with_reducible refine Kd.C_drew ?_)))
         (case aB => exact (hb_))
         (case aF => exact (fun k_ hk => Kd.fresh' (Kd.R_lt (rk_ HO177.out)) k_ hk))
         (case aO => exact (rk_ HO173.out))
         (case aS => exact (below_size (hb_)))
         (case aL => have := LMc8.out; omega)
         intro v179 w19 ho hb hg hat
         rw [← Ny178.out] at ho
         have n0_ := Aside0.mk (Kd.R_after (ok := (fun _ => True)) (by (with_reducible repeat (first | apply Kd.R_alloc | apply Kd.R_drewN | apply Kd.R_drew)); exact Kd.R_mono HO177.out (fun _ hk => ⟨trivial, hk⟩)) hg hat)
         have n1_ := Aside0.mk (hb)
         have n2_ := Aside0.mk (ho)
         clear HO177
         clear HB
         clear HO173
         have HO177 := n0_
         have HB := n1_
         have HO180 := n2_
         clear n0_ n1_ n2_
         clear ho hb hg hat
         refine hK.out _ _ ⟨((HB.out.cell (World.block_lt_of_cell? wr _ hw174_0)).trans hw174_0), ((HB.out.cell (World.block_lt_of_cell? wr _ hw174_1)).trans hw174_1)⟩ (fun hHeld => ?_)
         clear hK K
         refine norm_ (a' := ?_) ?_ ?_
         rotate_left
         ·show Act.put _ (some 25) _ = _
          simp only [Act.put, sA, sB, sC, i64_w, i32_w]
          rfl
         refine pure_ (i := 9) (N := some 9) (v := ?_) (a' := ?_) #[true, true, true, true, true, true, true, true, true, true] rfl rfl (any_of HT_.out (by kernel_rfl)) (fun _ _ _ h => h) (Or.inl ⟨by rfl, ?_⟩) ?_ ?_
         rotate_left
         ·intro w'
          go_simp
          with_reducible rfl
         rotate_left
         ·simp only [Act.put, sA, sB, sC, i64_w, i32_w]
          rfl
         refine done_ (done_of HT_.out (by kernel_rfl)) ?_
         obtain ⟨Ao21, co21, eo21⟩ := Kd.R_slice HO180.out
         subst eo21
         obtain ⟨AoX, coX, eoX⟩ := Kd.R_slice (Kd.S_R HST.out.row)
         subst eoX
         go_upto_region 5 with (first | ((with_reducible refine gate_callee (f := 36) rfl ?_); refine goesL_ (some 27) rfl rfl Try.func36 (by kernel_rfl) rfl #[.slice Ao21 y178.length co21] rfl ga_ ?_; (with_reducible refine (spec_bdBand.calls k1 _ _ y178 t181 _ ?side1 ?side2 A9.out).mono ?_); (case side1 => repeat (first | exact (Kd.R_reads' HO180.out).2.2 | (with_reducible refine Kd.C_alloc ?_ _) | (with_reducible refine Kd.C_drewN ?_ _) | (with_reducible refine Kd.C_drew ?_))); (case side2 => exact (Kd.R_reads' HO180.out).2.1); rintro e w22 ⟨v182, rfl, ho0, hb⟩; refine ⟨_, rfl, ?_⟩; have n0_ := Aside0.mk (Kd.R_elder' (rk_ HO177.out) (Kd.R_base ho0) hb); have n1_ := Aside0.mk (Kd.R_elder' (rk_ HO180.out) (Kd.R_base ho0) hb); have n2_ := Aside0.mk (Kd.R_lower (Kd.R_new' (Kd.R_new' ho0 (Kd.R_lt (rk_ HO177.out))) (Kd.R_lt (rk_ HO180.out))) (below_size (hb_))); have n3_ := Aside0.mk (below_step (hb_) hb); clear HO177; clear HO180; clear HB; have HO177 := n0_; have HO180 := n1_; have HO183 := n2_; have HB := n3_; clear n0_ n1_ n2_ n3_; (try clear hb); (try clear hb2); (try clear hk); (try clear hi); (try clear ho0); obtain ⟨Ao23, co23, eo23⟩ := Kd.R_slice HO183.out; subst eo23))
         have HS1 := Aside0.mk (HST.out.below HB.out)
         have hczX : w22.cell? ⟨g, 0, none⟩ = some (.slice AoX x7_1.length coX) := (blk_cell HS1.out.blk 0).trans rfl
         have HBS1 := Aside0.mk (Nat.le_trans HWR.out HB.out.size)
         have hnx := Aside0.mk (Kd.R_apart' HO180.out (Kd.S_typed HS1.out.row) (by decide))
         go_wp2_with (first | ((with_reducible refine gate_builtin (b := .append) (xs := #[.tmp 35, .tmp 37]) rfl ?_); (try (refine gate_guard (by rfl) ?_; dsimp only)); at_builtin; refine Kd.S_append kk26 (w0 := w22) base rfl (.tmp 35) (.tmp 37) 34 26 (.slice none 0 0) 24 rfl Try.underlying34 infoS26 rfl (by decide) (by omega) (.slice AoX x7_1.length coX) x7_1 y178 [.slice Ao21 y178.length co21] (fun _ => True) (fun k_ => some k_ = (Value.slice Ao21 y178.length co21).ownBlock) rfl rfl ?aP ?aK (fun _ _ => trivial) ?aO ?aB ?aS ?aL ?_; (case aP => exact ⟨_, rfl, Kd.R_lower (Kd.R_tight rfl HO180.out) HWR.out⟩); (case aK => exact fun k_ hk => ⟨trivial, (hnx.out.1 k_ hk.symm).2⟩); (case aO => exact Kd.S_mono (Kd.S_below (Kd.S_bound HST.out.row) HB.out) (fun k_ hk => ⟨trivial, fun he => by have h1_ := Kd.R_base HO180.out k_ he.symm; have h2_ := hk.2.2.1; omega⟩)); (case aB => exact Below.refl _ _); (case aS => exact HBS1.out); (case aL => have := c12.out; omega); intro v300 w300 ho hb hg hat; obtain ⟨AoY, coY, eoY⟩ := Kd.R_slice (Kd.S_R ho); rw [show (x7_1 ++ [y178]).length = x7_1.length + 1 by simp] at eoY; subst eoY; have hb1 : w300.heap[g]? = some (.cells #[.slice AoX x7_1.length coX] 34 (0, 0)) := blk_grown HS1.out.blk hg (Kd.S_ne HS1.out.row HS1.out.blk (by decide)); have HS2 := Aside0.mk (HS1.out.push ho ⟨hb.os, hb.tape, hb.output, hb.size, fun k hk => absurd hk (Nat.not_lt_zero k)⟩ hg hat); have HN2 := Aside0.mk (Kd.R_set (Kd.R_grown hnx.out hg (fun k hk => hk.2)) hb1 (by decide) 0 (.slice AoY (x7_1.length + 1) coY)); have hcz300 : w300.cell? ⟨g, 0, none⟩ = some (.slice AoX x7_1.length coX) := (blk_cell hb1 0).trans rfl; have hfz300 := blk_frozen hb1 0; clear ho hb hg hat hb1) | ((with_reducible refine gate_callee (f := 26) rfl ?_); refine goesL_ (some 45) rfl rfl Try.func26 (by kernel_rfl) rfl #[.slice (some ad174) l0.length c0, .slice Ao21 y178.length co21, .int .i64 (wrap64 (x8_1 + 1)), .pointer (some ⟨g, 0, none⟩)] rfl ga_ ?_; (refine (ih.out k1 (by have := HK1.out; omega) _ _ l0 _ _ y178 _ g base _ (x7_1 ++ [y178]) t184 _ (fun W' hk => HF0.out W' (HS2.out.keep.trans hk HS2.out.at_)) HC0.out (SetsSt.foot HS2.out HN2.out) (Kd.R_reads' HO180.out).2.1 (Nat.le_trans HBS.out HS2.out.keep.1) HS2.out.self A11.out).mono ?_); rintro e w301 ⟨rfl, v301, hs⟩; refine ⟨_, rfl, ?_⟩; have HS3 := Aside0.mk (HS2.out.then_ hs); clear hs))
         go_roundg k1
         case measure => have := HK1.out; omega
         case rel => exact ⟨t184, v301, (wrap64 (x8_1 + 1)), (by first | rfl | (simp; done) | (simp [*]; done)), H', ⟨by have := HK1.out; omega⟩, ⟨HS3.out.below (by repeat (first | exact Below.refl _ _ | apply below_alloc | apply pw_below_drewN | apply below_drew1))⟩⟩
        ·rw [if_neg c12] at H
         cases H
       ·rw [if_neg c10] at H
        have c10b0 : ((t181.length : Int) == (y178.length : Int)) = false := beq_eq_false_iff_ne.mpr c10
        have c10b1 : ((t181.length : Int) != (y178.length : Int)) = true := bne_iff_ne.mpr c10
        have c10b2 : (t181.length == y178.length) = false := by first | simpa using c10 | (simp at c10 ⊢; omega)
        have H' := Aside0.mk H
        clear H
        try go_wp2
        have n0_ := Aside0.mk (below_drew1 HB.out)
        clear HB
        have HB := n0_
        clear n0_
        have p174 : 0 ≤ (x8_1 : Int) := odt_
        have q174 : x8_1 < (l0.length : Int) := odt_
        obtain ⟨ad174, e174, hx174_0, hx174_1⟩ := at_T37 HR0.out x8_1 p174 q174
        have hw174_1 := hx174_1
        have hw174_0 := hx174_0
        cases e174
        replace hx174_0 := (HB.out.cell (World.block_lt_of_cell? wr _ hx174_0)).trans hx174_0
        replace hx174_1 := (HB.out.cell (World.block_lt_of_cell? wr _ hx174_1)).trans hx174_1
        replace p174 := eq_true p174
        replace q174 := eq_true q174
        refine start_ (n := 10) (S := fun w' => w'.cell? (ad174.add ((x8_1).toNat * 2)) = some (.int .i64 ((rd_T37 l0 x8_1).f0)) ∧ w'.cell? ⟨(ad174.add ((x8_1).toNat * 2)).block, (ad174.add ((x8_1).toNat * 2)).off + 1, none⟩ = some (.int .i64 ((rd_T37 l0 x8_1).f1))) (ds := []) #[false, false, false, false, false, false, false, false, false, false] (by kernel_rfl) rfl rfl ⟨((HB.out.cell (World.block_lt_of_cell? wr _ hw174_0)).trans hw174_0), ((HB.out.cell (World.block_lt_of_cell? wr _ hw174_1)).trans hw174_1)⟩ (fun hHeld => ?_); refine with_tabW spec_bdSets.tab3 spec_bdSets.bits3 (fun HT_ HW_ => ?_)
        generalize wr.drew = w25 at HB hx174_0 hx174_1 hHeld ⊢
        refine pure_ (i := 1) (N := some 18) (v := ?_) (a' := ?_) #[false, true, false, false, false, false, false, false, false, false] rfl rfl (any_of HT_.out (by kernel_rfl)) (fun _ _ _ h => h) (Or.inl ⟨by rfl, ?_⟩) ?_ ?_
        rotate_left
        ·intro w'
         go_simp
         with_reducible rfl
        rotate_left
        ·simp only [Act.put, sA, sB, sC, i64_w, i32_w]
         rfl
        refine pure_ (i := 3) (N := some 20) (v := ?_) (a' := ?_) #[false, true, false, true, false, false, false, false, false, false] rfl rfl (any_of HT_.out (by kernel_rfl)) (fun _ _ _ h => h) (Or.inl ⟨by rfl, ?_⟩) ?_ ?_
        rotate_left
        ·intro w'
         go_simp
         with_reducible rfl
        rotate_left
        ·simp only [Act.put, sA, sB, sC, i64_w, i32_w]
         rfl
        refine pure_ (i := 4) (N := some 21) (v := ?_) (a' := ?_) #[false, true, false, true, true, false, false, false, false, false] rfl rfl (any_of HT_.out (by kernel_rfl)) (fun _ _ _ h => h) (Or.inl ⟨by rfl, ?_⟩) ?_ ?_
        rotate_left
        ·intro w'
         go_simp
         with_reducible rfl
        rotate_left
        ·simp only [Act.put, sA, sB, sC, i64_w, i32_w]
         rfl
        refine pure_ (i := 5) (N := some 22) (v := ?_) (a' := ?_) #[false, true, false, true, true, true, false, false, false, false] rfl rfl (any_of HT_.out (by kernel_rfl)) (fun _ _ _ h => h) (Or.inl ⟨by rfl, ?_⟩) ?_ ?_
        rotate_left
        ·intro w'
         go_simp
         with_reducible rfl
        rotate_left
        ·simp only [Act.put, sA, sB, sC, i64_w, i32_w]
         rfl
        refine take_ (i := 6) (N := some 23) (v := ?_) (a' := ?_) #[false, true, false, true, true, true, true, false, false, false] rfl rfl (take_ofW HT_.out HW_.out (by kernel_rfl)) (fun _ _ _ h => h) (Or.inl ⟨by rfl, ?_⟩) hHeld ?_ ?_
        rotate_left
        ·rintro w' ⟨s0, s1⟩
         go_simp
         with_reducible rfl
        rotate_left
        ·simp only [Act.put, sA, sB, sC, i64_w, i32_w]
         rfl
        refine join_ (σ := Value × Value × Value) 2 #[true, true, true, true, true, true, true, true, false, false] (fun s_ => [(17, s_.1), (19, s_.2.1), (24, s_.2.2)]) (fun s_ w' => (w'.cell? (ad174.add ((x8_1).toNat * 2)) = some (.int .i64 ((rd_T37 l0 x8_1).f0)) ∧ w'.cell? ⟨(ad174.add ((x8_1).toNat * 2)).block, (ad174.add ((x8_1).toNat * 2)).off + 1, none⟩ = some (.int .i64 ((rd_T37 l0 x8_1).f1))) ∧ (Kd.R k37 37 w' wr.heap.size (fun k_ => some k_ ≠ (s_.2.2 : Value).ownBlock) s_.2.1 y171) ∧ (Kd.R k37 37 w' wr.heap.size (fun k_ => some k_ ≠ (s_.2.1 : Value).ownBlock) s_.2.2 y175) ∧ (Below wr.heap.size wr w')) ?_ ?_
        rotate_left
        ·intro hCont
         refine two_ (i := 0) (j := 7) (Ni := some 17) (Nj := some 24) #[true, true, false, true, true, true, true, false, false, false] #[false, true, false, true, true, true, true, true, false, false] rfl rfl rfl rfl (two_of HT_.out (by kernel_rfl)) (by decide) (by decide) (fun K hK => ?_) (fun K hK => ?_)
         ·skip
          refine Kd.R_lit_step k37 _ 37 ?hg (N := 17) ?hd (xs := ([] : List (S37))) (inner := []) (ok := fun _ => True) (okp := fun _ => True) ?hr ?hp (fun _ hk => hk) trivial (Below.refl _ _) (Nat.le_refl _) (by simp) ?_; (case hd => rfl); (case hg => rfl); (case hr => first | (go_simp; done) | (go_simp; rfl)); (case hp => exact (Reps.none _ _))
          intro v169 w26 ho27 hb hg_ hnew_
          clear hg_ hnew_
          (first | rw [← Ny168.out] at ho27 | (simp only [Int.reduceToNat] at ho27; rw [← Ny168.out] at ho27))
          have n0_ := Aside0.mk (Kd.R_lower ho27 (below_size (hb_)))
          have n1_ := Aside0.mk (below_step (hb_) hb)
          clear HB
          have HO170 := n0_
          have HB := n1_
          clear n0_ n1_
          clear hb ho27
          refine hK.out _ _ ⟨((HB.out.cell (World.block_lt_of_cell? wr _ hw174_0)).trans hw174_0), ((HB.out.cell (World.block_lt_of_cell? wr _ hw174_1)).trans hw174_1)⟩ (fun hHeld => ?_)
          clear hK K
          refine norm_ (a' := ?_) ?_ ?_
          rotate_left
          ·show Act.put _ (some 17) _ = _
           simp only [Act.put, sA, sB, sC, i64_w, i32_w]
           rfl
          refine two_ (i := 2) (j := 7) (Ni := some 19) (Nj := some 24) #[true, true, true, true, true, true, true, false, false, false] #[true, true, false, true, true, true, true, true, false, false] rfl rfl rfl rfl (two_of HT_.out (by kernel_rfl)) (by decide) (by decide) (fun K hK => ?_) (fun K hK => ?_)
          ·skip
           refine Kd.R_append_rows_step k37 (w0 := wr) wr.heap.size (by rfl) (.tmp 17) (.tmp 18) 26 37 (.agg #[(.int .i64 0), (.int .i64 0)]) 16 rfl Try.underlying26 info37 rfl (by decide) (by omega) v169 y168 l1 _ _ _ (fun _ => True) (fun _ => False) rfl rfl ?aO ?aR (fun _ _ h => h) (fun _ h => h.elim) ?aF ?aB ?aS ?aL ?_
           (case aR => repeat (first | exact (Kd.C_below HR1.out HB.out) | (with_reducible refine Kd.C_alloc ?_ _) | (with_reducible refine Kd.C_drewN ?_ _) | (with_reducible refine Kd.C_drew ?_)))
           (case aB => exact (hb_))
           (case aF => exact (fun _ _ => trivial))
           (case aO => exact (rk_ HO170.out))
           (case aS => exact (below_size (hb_)))
           (case aL => have := LMc6.out; omega)
           intro v172 w28 ho hb hg hat
           rw [← Ny171.out] at ho
           have n0_ := Aside0.mk (hb)
           have n1_ := Aside0.mk (ho)
           clear HB
           clear HO170
           have HB := n0_
           have HO173 := n1_
           clear n0_ n1_
           clear ho hb hg hat
           refine hK.out _ _ ⟨((HB.out.cell (World.block_lt_of_cell? wr _ hw174_0)).trans hw174_0), ((HB.out.cell (World.block_lt_of_cell? wr _ hw174_1)).trans hw174_1)⟩ (fun hHeld => ?_)
           clear hK K
           refine norm_ (a' := ?_) ?_ ?_
           rotate_left
           ·show Act.put _ (some 19) _ = _
            simp only [Act.put, sA, sB, sC, i64_w, i32_w]
            rfl
           refine one_ (i := 7) (N := some 24) #[true, true, true, true, true, true, true, true, false, false] rfl rfl (one_of HT_.out (by kernel_rfl)) (by decide) (fun K hK => ?_)
           refine Kd.R_lit_step k37 _ 37 ?hg (N := 24) ?hd (xs := ([(⟨(rd_T37 l0 x8_1).f0, (rd_T37 l0 x8_1).f1⟩ : S37)] : List (S37))) (inner := [.int .i64 ((rd_T37 l0 x8_1).f0), .int .i64 ((rd_T37 l0 x8_1).f1)]) (ok := fun _ => True) (okp := fun _ => True) ?hr ?hp (fun _ hk => hk) trivial (Below.refl _ _) (Nat.le_refl _) (by simp) ?_; (case hd => rfl); (case hg => rfl); (case hr => first | (go_simp; done) | (go_simp; rfl)); (case hp => exact (Reps.c2 (show Kd.M k37 _ _ _ (⟨(rd_T37 l0 x8_1).f0, (rd_T37 l0 x8_1).f1⟩ : S37) [.int .i64 ((rd_T37 l0 x8_1).f0), .int .i64 ((rd_T37 l0 x8_1).f1)] from (k37_mkM _ _ _ (⟨(rd_T37 l0 x8_1).f0, (rd_T37 l0 x8_1).f1⟩ : S37) )) (Reps.none _ _)))
           intro v176 w29 ho30 hb hg_ hnew_
           clear hg_ hnew_
           (first | rw [← Ny175.out] at ho30 | (simp only [Int.reduceToNat] at ho30; rw [← Ny175.out] at ho30))
           have n0_ := Aside0.mk (Kd.R_elder' (rk_ HO173.out) (Kd.R_base ho30) hb)
           have n1_ := Aside0.mk (Kd.R_lower (Kd.R_new' ho30 (Kd.R_lt (rk_ HO173.out))) (below_size (hb_)))
           have n2_ := Aside0.mk (below_step (hb_) hb)
           clear HO173
           clear HB
           have HO173 := n0_
           have HO177 := n1_
           have HB := n2_
           clear n0_ n1_ n2_
           clear hb ho30
           refine hK.out _ _ ⟨((HB.out.cell (World.block_lt_of_cell? wr _ hw174_0)).trans hw174_0), ((HB.out.cell (World.block_lt_of_cell? wr _ hw174_1)).trans hw174_1)⟩ (fun hHeld => ?_)
           clear hK K
           refine norm_ (a' := ?_) ?_ ?_
           rotate_left
           ·show Act.put _ (some 24) _ = _
            simp only [Act.put, sA, sB, sC, i64_w, i32_w]
            rfl
           exact norm_ (by simp only [putAll, Act.put, List.setIfInBounds_toArray, List.set_cons_zero, List.set_cons_succ]) (hCont (v169, v172, v176) _ ⟨hHeld, (by (with_reducible repeat (first | apply Kd.R_alloc | apply Kd.R_drewN | apply Kd.R_drew)); exact Kd.R_mono HO173.out (fun _ hk => hk.2)), (by (with_reducible repeat (first | apply Kd.R_alloc | apply Kd.R_drewN | apply Kd.R_drew)); exact Kd.R_mono HO177.out (fun _ hk => hk.2)), (hb_)⟩)
          ·skip
           refine Kd.R_lit_step k37 _ 37 ?hg (N := 24) ?hd (xs := ([(⟨(rd_T37 l0 x8_1).f0, (rd_T37 l0 x8_1).f1⟩ : S37)] : List (S37))) (inner := [.int .i64 ((rd_T37 l0 x8_1).f0), .int .i64 ((rd_T37 l0 x8_1).f1)]) (ok := fun _ => True) (okp := fun _ => True) ?hr ?hp (fun _ hk => hk) trivial (Below.refl _ _) (Nat.le_refl _) (by simp) ?_; (case hd => rfl); (case hg => rfl); (case hr => first | (go_simp; done) | (go_simp; rfl)); (case hp => exact (Reps.c2 (show Kd.M k37 _ _ _ (⟨(rd_T37 l0 x8_1).f0, (rd_T37 l0 x8_1).f1⟩ : S37) [.int .i64 ((rd_T37 l0 x8_1).f0), .int .i64 ((rd_T37 l0 x8_1).f1)] from (k37_mkM _ _ _ (⟨(rd_T37 l0 x8_1).f0, (rd_T37 l0 x8_1).f1⟩ : S37) )) (Reps.none _ _)))
           intro v176 w28 ho29 hb hg_ hnew_
           clear hg_ hnew_
           (first | rw [← Ny175.out] at ho29 | (simp only [Int.reduceToNat] at ho29; rw [← Ny175.out] at ho29))
           have n0_ := Aside0.mk (Kd.R_elder' (rk_ HO170.out) (Kd.R_base ho29) hb)
           have n1_ := Aside0.mk (Kd.R_lower (Kd.R_new' ho29 (Kd.R_lt (rk_ HO170.out))) (below_size (hb_)))
           have n2_ := Aside0.mk (below_step (hb_) hb)
           clear HO170
           clear HB
           have HO170 := n0_
           have HO177 := n1_
           have HB := n2_
           clear n0_ n1_ n2_
           clear hb ho29
           refine hK.out _ _ ⟨((HB.out.cell (World.block_lt_of_cell? wr _ hw174_0)).trans hw174_0), ((HB.out.cell (World.block_lt_of_cell? wr _ hw174_1)).trans hw174_1)⟩ (fun hHeld => ?_)
           clear hK K
           refine norm_ (a' := ?_) ?_ ?_
           rotate_left
           ·show Act.put _ (some 24) _ = _
            simp only [Act.put, sA, sB, sC, i64_w, i32_w]
            rfl
           refine one_ (i := 2) (N := some 19) #[true, true, true, true, true, true, true, true, false, false] rfl rfl (one_of HT_.out (by kernel_rfl)) (by decide) (fun K hK => ?_)
           refine Kd.R_append_rows_step k37 (w0 := wr) wr.heap.size (by rfl) (.tmp 17) (.tmp 18) 26 37 (.agg #[(.int .i64 0), (.int .i64 0)]) 16 rfl Try.underlying26 info37 rfl (by decide) (by omega) v169 y168 l1 _ _ _ (fun k_ => some k_ ≠ (v176 : Value).ownBlock) (fun _ => False) rfl rfl ?aO ?aR (fun _ _ h => h) (fun _ h => h.elim) ?aF ?aB ?aS ?aL ?_
           (case aR => repeat (first | exact (Kd.C_below HR1.out HB.out) | (with_reducible refine Kd.C_alloc ?_ _) | (with_reducible refine Kd.C_drewN ?_ _) | (with_reducible refine Kd.C_drew ?_)))
           (case aB => exact (hb_))
           (case aF => exact (fun k_ hk => Kd.fresh' (Kd.R_lt (rk_ HO177.out)) k_ hk))
           (case aO => exact (by (with_reducible repeat (first | apply Kd.R_alloc | apply Kd.R_drewN | apply Kd.R_drew)); exact Kd.R_mono HO170.out (fun _ hk => hk.2)))
           (case aS => exact (below_size (hb_)))
           (case aL => have := LMc6.out; omega)
           intro v172 w30 ho hb hg hat
           rw [← Ny171.out] at ho
           have n0_ := Aside0.mk (Kd.R_after (ok := (fun _ => True)) (rk_ HO177.out) hg hat)
           have n1_ := Aside0.mk (hb)
           have n2_ := Aside0.mk (ho)
           clear HO177
           clear HB
           clear HO170
           have HO177 := n0_
           have HB := n1_
           have HO173 := n2_
           clear n0_ n1_ n2_
           clear ho hb hg hat
           refine hK.out _ _ ⟨((HB.out.cell (World.block_lt_of_cell? wr _ hw174_0)).trans hw174_0), ((HB.out.cell (World.block_lt_of_cell? wr _ hw174_1)).trans hw174_1)⟩ (fun hHeld => ?_)
           clear hK K
           refine norm_ (a' := ?_) ?_ ?_
           rotate_left
           ·show Act.put _ (some 19) _ = _
            simp only [Act.put, sA, sB, sC, i64_w, i32_w]
            rfl
           exact norm_ (by simp only [putAll, Act.put, List.setIfInBounds_toArray, List.set_cons_zero, List.set_cons_succ]) (hCont (v169, v172, v176) _ ⟨hHeld, (rk_ HO173.out), (by (with_reducible repeat (first | apply Kd.R_alloc | apply Kd.R_drewN | apply Kd.R_drew)); exact Kd.R_mono HO177.out (fun _ hk => hk.2)), (hb_)⟩)
         ·skip
          refine Kd.R_lit_step k37 _ 37 ?hg (N := 24) ?hd (xs := ([(⟨(rd_T37 l0 x8_1).f0, (rd_T37 l0 x8_1).f1⟩ : S37)] : List (S37))) (inner := [.int .i64 ((rd_T37 l0 x8_1).f0), .int .i64 ((rd_T37 l0 x8_1).f1)]) (ok := fun _ => True) (okp := fun _ => True) ?hr ?hp (fun _ hk => hk) trivial (Below.refl _ _) (Nat.le_refl _) (by simp) ?_; (case hd => rfl); (case hg => rfl); (case hr => first | (go_simp; done) | (go_simp; rfl)); (case hp => exact (Reps.c2 (show Kd.M k37 _ _ _ (⟨(rd_T37 l0 x8_1).f0, (rd_T37 l0 x8_1).f1⟩ : S37) [.int .i64 ((rd_T37 l0 x8_1).f0), .int .i64 ((rd_T37 l0 x8_1).f1)] from (k37_mkM _ _ _ (⟨(rd_T37 l0 x8_1).f0, (rd_T37 l0 x8_1).f1⟩ : S37) )) (Reps.none _ _)))
          intro v176 w26 ho27 hb hg_ hnew_
          clear hg_ hnew_
          (first | rw [← Ny175.out] at ho27 | (simp only [Int.reduceToNat] at ho27; rw [← Ny175.out] at ho27))
          have n0_ := Aside0.mk (Kd.R_lower ho27 (below_size (hb_)))
          have n1_ := Aside0.mk (below_step (hb_) hb)
          clear HB
          have HO177 := n0_
          have HB := n1_
          clear n0_ n1_
          clear hb ho27
          refine hK.out _ _ ⟨((HB.out.cell (World.block_lt_of_cell? wr _ hw174_0)).trans hw174_0), ((HB.out.cell (World.block_lt_of_cell? wr _ hw174_1)).trans hw174_1)⟩ (fun hHeld => ?_)
          clear hK K
          refine norm_ (a' := ?_) ?_ ?_
          rotate_left
          ·show Act.put _ (some 24) _ = _
           simp only [Act.put, sA, sB, sC, i64_w, i32_w]
           rfl
          refine one_ (i := 0) (N := some 17) #[true, true, false, true, true, true, true, true, false, false] rfl rfl (one_of HT_.out (by kernel_rfl)) (by decide) (fun K hK => ?_)
          refine Kd.R_lit_step k37 _ 37 ?hg (N := 17) ?hd (xs := ([] : List (S37))) (inner := []) (ok := fun _ => True) (okp := fun _ => True) ?hr ?hp (fun _ hk => hk) trivial (Below.refl _ _) (Nat.le_refl _) (by simp) ?_; (case hd => rfl); (case hg => rfl); (case hr => first | (go_simp; done) | (go_simp; rfl)); (case hp => exact (Reps.none _ _))
          intro v169 w28 ho29 hb hg_ hnew_
          clear hg_ hnew_
          (first | rw [← Ny168.out] at ho29 | (simp only [Int.reduceToNat] at ho29; rw [← Ny168.out] at ho29))
          have n0_ := Aside0.mk (Kd.R_elder' (rk_ HO177.out) (Kd.R_base ho29) hb)
          have n1_ := Aside0.mk (Kd.R_lower (Kd.R_new' ho29 (Kd.R_lt (rk_ HO177.out))) (below_size (hb_)))
          have n2_ := Aside0.mk (below_step (hb_) hb)
          clear HO177
          clear HB
          have HO177 := n0_
          have HO170 := n1_
          have HB := n2_
          clear n0_ n1_ n2_
          clear hb ho29
          refine hK.out _ _ ⟨((HB.out.cell (World.block_lt_of_cell? wr _ hw174_0)).trans hw174_0), ((HB.out.cell (World.block_lt_of_cell? wr _ hw174_1)).trans hw174_1)⟩ (fun hHeld => ?_)
          clear hK K
          refine norm_ (a' := ?_) ?_ ?_
          rotate_left
          ·show Act.put _ (some 17) _ = _
           simp only [Act.put, sA, sB, sC, i64_w, i32_w]
           rfl
          refine one_ (i := 2) (N := some 19) #[true, true, true, true, true, true, true, true, false, false] rfl rfl (one_of HT_.out (by kernel_rfl)) (by decide) (fun K hK => ?_)
          refine Kd.R_append_rows_step k37 (w0 := wr) wr.heap.size (by rfl) (.tmp 17) (.tmp 18) 26 37 (.agg #[(.int .i64 0), (.int .i64 0)]) 16 rfl Try.underlying26 info37 rfl (by decide) (by omega) v169 y168 l1 _ _ _ (fun k_ => some k_ ≠ (v176 : Value).ownBlock) (fun _ => False) rfl rfl ?aO ?aR (fun _ _ h => h) (fun _ h => h.elim) ?aF ?aB ?aS ?aL ?_
          (case aR => repeat (first | exact (Kd.C_below HR1.out HB.out) | (with_reducible refine Kd.C_alloc ?_ _) | (with_reducible refine Kd.C_drewN ?_ _) | (with_reducible refine Kd.C_drew ?_)))
          (case aB => exact (hb_))
          (case aF => exact (fun k_ hk => Kd.fresh' (Kd.R_lt (rk_ HO177.out)) k_ hk))
          (case aO => exact (by (with_reducible repeat (first | apply Kd.R_alloc | apply Kd.R_drewN | apply Kd.R_drew)); exact Kd.R_mono HO170.out (fun _ hk => hk.2)))
          (case aS => exact (below_size (hb_)))
          (case aL => have := LMc6.out; omega)
          intro v172 w30 ho hb hg hat
          rw [← Ny171.out] at ho
          have n0_ := Aside0.mk (Kd.R_after (ok := (fun _ => True)) (rk_ HO177.out) hg hat)
          have n1_ := Aside0.mk (hb)
          have n2_ := Aside0.mk (ho)
          clear HO177
          clear HB
          clear HO170
          have HO177 := n0_
          have HB := n1_
          have HO173 := n2_
          clear n0_ n1_ n2_
          clear ho hb hg hat
          refine hK.out _ _ ⟨((HB.out.cell (World.block_lt_of_cell? wr _ hw174_0)).trans hw174_0), ((HB.out.cell (World.block_lt_of_cell? wr _ hw174_1)).trans hw174_1)⟩ (fun hHeld => ?_)
          clear hK K
          refine norm_ (a' := ?_) ?_ ?_
          rotate_left
          ·show Act.put _ (some 19) _ = _
           simp only [Act.put, sA, sB, sC, i64_w, i32_w]
           rfl
          exact norm_ (by simp only [putAll, Act.put, List.setIfInBounds_toArray, List.set_cons_zero, List.set_cons_succ]) (hCont (v169, v172, v176) _ ⟨hHeld, (rk_ HO173.out), (by (with_reducible repeat (first | apply Kd.R_alloc | apply Kd.R_drewN | apply Kd.R_drew)); exact Kd.R_mono HO177.out (fun _ hk => hk.2)), (hb_)⟩)
        rintro ⟨v169, v172, v176⟩ w31 ⟨hS_, h0_, h1_, h2_⟩
        have n0_ : Aside0 (Kd.R k37 37 w31 wr.heap.size (fun k_ => some k_ ≠ (v176 : Value).ownBlock) v172 y171) := ⟨h0_⟩
        have n1_ : Aside0 (Kd.R k37 37 w31 wr.heap.size (fun k_ => some k_ ≠ (v172 : Value).ownBlock) v176 y175) := ⟨h1_⟩
        have n2_ : Aside0 (Below wr.heap.size wr w31) := ⟨h2_⟩
        clear HB
        clear h0_ h1_ h2_
        have HO173 := n0_
        have HO177 := n1_
        have HB := n2_
        clear n0_ n1_ n2_
        have hHeld : w31.cell? (ad174.add ((x8_1).toNat * 2)) = some (.int .i64 ((rd_T37 l0 x8_1).f0)) ∧ w31.cell? ⟨(ad174.add ((x8_1).toNat * 2)).block, (ad174.add ((x8_1).toNat * 2)).off + 1, none⟩ = some (.int .i64 ((rd_T37 l0 x8_1).f1)) := hS_
        obtain ⟨Ao33, co33, eo33⟩ := Kd.R_slice HO177.out
        (first | subst eo33 | (injection eo33 with f1_ f2_ f3_; have f4_ := f1_.symm; have f5_ := f3_.symm; clear f1_ f2_ f3_; subst f4_; subst f5_))
        refine norm_ (a' := ?_) ?_ ?_
        rotate_left
        ·simp only [putAll, Act.put, List.setIfInBounds_toArray, List.set_cons_zero, List.set_cons_succ]
         rfl
        refine one_ (i := 8) (N := some 25) #[true, true, true, true, true, true, true, true, true, false] rfl rfl (one_of HT_.out (by kernel_rfl)) (by decide) (fun K hK => ?_)
        refine Kd.R_append_rows_step k37 (w0 := wr) wr.heap.size (by rfl) (.tmp 19) (.tmp 24) 26 37 (.agg #[(.int .i64 0), (.int .i64 0)]) 16 rfl Try.underlying26 info37 rfl (by decide) (by omega) v172 y171 y175 _ _ _ (fun k_ => some k_ ≠ (.slice Ao33 y175.length co33 : Value).ownBlock) (fun _ => False) rfl rfl ?aO ?aR (fun _ _ h => h) (fun _ h => h.elim) ?aF ?aB ?aS ?aL ?_
        (case aR => repeat (first | exact (Kd.R_reads' HO177.out).2.2 | (with_reducible refine Kd.C_alloc ?_ _) | (with_reducible refine Kd.C_drewN ?_ _) | (with_reducible refine Kd.C_drew ?_)))
        (case aB => exact (hb_))
        (case aF => exact (fun k_ hk => Kd.fresh' (Kd.R_lt (rk_ HO177.out)) k_ hk))
        (case aO => exact (rk_ HO173.out))
        (case aS => exact (below_size (hb_)))
        (case aL => have := LMc8.out; omega)
        intro v179 w32 ho hb hg hat
        rw [← Ny178.out] at ho
        have n0_ := Aside0.mk (Kd.R_after (ok := (fun _ => True)) (by (with_reducible repeat (first | apply Kd.R_alloc | apply Kd.R_drewN | apply Kd.R_drew)); exact Kd.R_mono HO177.out (fun _ hk => ⟨trivial, hk⟩)) hg hat)
        have n1_ := Aside0.mk (hb)
        have n2_ := Aside0.mk (ho)
        clear HO177
        clear HB
        clear HO173
        have HO177 := n0_
        have HB := n1_
        have HO180 := n2_
        clear n0_ n1_ n2_
        clear ho hb hg hat
        refine hK.out _ _ ⟨((HB.out.cell (World.block_lt_of_cell? wr _ hw174_0)).trans hw174_0), ((HB.out.cell (World.block_lt_of_cell? wr _ hw174_1)).trans hw174_1)⟩ (fun hHeld => ?_)
        clear hK K
        refine norm_ (a' := ?_) ?_ ?_
        rotate_left
        ·show Act.put _ (some 25) _ = _
         simp only [Act.put, sA, sB, sC, i64_w, i32_w]
         rfl
        refine pure_ (i := 9) (N := some 9) (v := ?_) (a' := ?_) #[true, true, true, true, true, true, true, true, true, true] rfl rfl (any_of HT_.out (by kernel_rfl)) (fun _ _ _ h => h) (Or.inl ⟨by rfl, ?_⟩) ?_ ?_
        rotate_left
        ·intro w'
         go_simp
         with_reducible rfl
        rotate_left
        ·simp only [Act.put, sA, sB, sC, i64_w, i32_w]
         rfl
        refine done_ (done_of HT_.out (by kernel_rfl)) ?_
        obtain ⟨Ao34, co34, eo34⟩ := Kd.R_slice HO180.out
        subst eo34
        try go_wp2_with (first | ((with_reducible refine gate_callee (f := 36) rfl ?_); refine goesL_ (some 27) rfl rfl Try.func36 (by kernel_rfl) rfl #[.slice Ao34 y178.length co34] rfl ga_ ?_; (with_reducible refine (spec_bdBand.calls k1 _ _ y178 t181 _ ?side1 ?side2 A9.out).mono ?_); (case side1 => repeat (first | exact (Kd.R_reads' HO180.out).2.2 | (with_reducible refine Kd.C_alloc ?_ _) | (with_reducible refine Kd.C_drewN ?_ _) | (with_reducible refine Kd.C_drew ?_))); (case side2 => exact (Kd.R_reads' HO180.out).2.1); rintro e w35 ⟨v182, rfl, ho0, hb⟩; refine ⟨_, rfl, ?_⟩; have n0_ := Aside0.mk (Kd.R_elder' (rk_ HO177.out) (Kd.R_base ho0) hb); have n1_ := Aside0.mk (Kd.R_elder' (rk_ HO180.out) (Kd.R_base ho0) hb); have n2_ := Aside0.mk (Kd.R_lower (Kd.R_new' (Kd.R_new' ho0 (Kd.R_lt (rk_ HO177.out))) (Kd.R_lt (rk_ HO180.out))) (below_size (hb_))); have n3_ := Aside0.mk (below_step (hb_) hb); clear HO177; clear HO180; clear HB; have HO177 := n0_; have HO180 := n1_; have HO183 := n2_; have HB := n3_; clear n0_ n1_ n2_ n3_; (try clear hb); (try clear hb2); (try clear hk); (try clear hi); (try clear ho0); obtain ⟨Ao36, co36, eo36⟩ := Kd.R_slice HO183.out; subst eo36))
        go_roundg k1
        case measure => have := HK1.out; omega
        case rel => exact ⟨x7_1, vO, (wrap64 (x8_1 + 1)), (by first | rfl | (simp; done) | (simp [*]; done)), H', ⟨by have := HK1.out; omega⟩, ⟨HST.out.below (hb_)⟩⟩
      ·rw [if_neg c8] at H
       cases H
     ·rw [if_neg c7] at H
      cases H
    ·rw [if_neg c6] at H
     cases H
   ·rw [if_neg c5] at H
    have c5b0 : decide (x8_1 < (l0.length : Int)) = false := decide_eq_false c5
    clear c5
    obtain rfl := Option.some.inj H
    go_wp2
    go_end0
    exact ⟨rfl, vO, HST.out.below (by repeat (first | exact Below.refl _ _ | apply below_alloc | apply pw_below_drewN | apply below_drew1))⟩
/-! ### spec_bdConvex: function 15 (a contract by hand) -/
def spec_bdConvex.f (k : Nat) (l0 : List (S37)) : Option (List (List S37)) := (spec_bdSorted.f k l0).bind fun t185 => ((spec_bdSets.f k t185 ([] : List (S37)) 0 []).bind fun t188 => (some t188))
theorem spec_bdConvex.mono : ∀ a0 k, LeO (spec_bdConvex.f k a0) (spec_bdConvex.f (k + 1) a0) := by
 intro a0 k
 unfold spec_bdConvex.f
 exact LeO.bind (spec_bdSorted.mono _ _) (fun _ => LeO.bind (spec_bdSets.mono _ _ _ _ _) (fun _ => LeO.refl _))
set_option maxHeartbeats 8000000 in
set_option maxRecDepth 100000 in
theorem spec_bdConvex.calls (k : Nat) (A0 : Option Addr) (c0 : Nat) (l0 : List (S37)) (r : List (List S37)) (w : World) (hr0 : Kd.C k37 w A0 l0.length l0) (hc0 : l0.length ≤ c0) (h : spec_bdConvex.f k l0 = some r) :
  Calls Try.prog 15 #[.slice A0 l0.length c0] w fun e w' => ∃ v0_ : Value, e = .returned (v0_) ∧ Kd.S (Kd.slice 37 k37) 26 w' w.heap.size (fun _ => True) v0_ r ∧ Below w.heap.size w w' := by
 have HR0 := Aside0.mk hr0
 have HC0 := Aside0.mk hc0
 clear hr0 hc0
 have HB := Aside0.mk (Below.refl w.heap.size w)
 have H : ((spec_bdSorted.f k l0).bind fun t185 => ((spec_bdSets.f k t185 ([] : List (S37)) 0 []).bind fun t188 => (some t188))) = some r := h
 clear h
 replace H := Option.bind_eq_some_iff.mp H
 obtain ⟨t185, A20, H⟩ := H
 have A2 := Aside0.mk A20
 clear A20
 replace H := Option.bind_eq_some_iff.mp H
 obtain ⟨t188, A30, H⟩ := H
 have A3 := Aside0.mk A30
 clear A30
 obtain rfl := Option.some.inj H
 clear H
 go_enter Try.func15, Try.ntmps15
 go_upto_region 3 with (first | ((with_reducible refine gate_dst (N := 3) rfl ?_); refine box_event ?hg (N := 3) ?hd (cs := #[.slice none 0 0]) (t := 34) ?hr ?_; (case hd => rfl); (case hg => rfl); (case hr => first | (go_simp; done) | (go_simp; rfl)); intro g hg w3 hbox hb; have n0_ := Aside0.mk (below_step (hb_) hb); have BKG := Aside0.mk (hbox); have GE := Aside0.mk ((by rw [hg]; exact (below_size (hb_)) : w.heap.size ≤ g)); clear HB; have HB := n0_; clear n0_; clear hb hbox hg) | ((with_reducible refine gate_callee (f := 27) rfl ?_); refine goesL_ (some 5) rfl rfl Try.func27 (by kernel_rfl) rfl #[.slice A0 l0.length c0] rfl ga_ ?_; (with_reducible refine (spec_bdSorted.calls k _ _ l0 t185 _ ?side1 ?side2 A2.out).mono ?_); (case side1 => repeat (first | exact HR0.out | exact (Kd.C_below HR0.out HB.out) | (with_reducible refine Kd.C_alloc ?_ _) | (with_reducible refine Kd.C_drewN ?_ _) | (with_reducible refine Kd.C_drew ?_))); (case side2 => exact HC0.out); rintro e w4 ⟨v186, rfl, ho0, hb⟩; refine ⟨_, rfl, ?_⟩; have n0_ := bb_ BKG hb; have n1_ := Aside0.mk (below_step (hb_) hb); clear HB BKG; have HB := n1_; have BKG := n0_; clear n0_ n1_ hb; obtain ⟨AoV, coV, eoV⟩ := Kd.R_slice ho0; subst eoV; have HO := Aside0.mk ho0; clear ho0; have HS := Aside0.mk (show SetsSt w4 w4 g w.heap.size (.slice none 0 0) (.slice none 0 0) [] from ⟨BKG.out, Kd.S_nil _ _ _ _ _, KeepBut.refl _ _ _, Below.refl _ _, .inl rfl⟩)) | ((with_reducible refine gate_callee (f := 26) rfl ?_); refine goesL_ (some 6) rfl rfl Try.func26 (by kernel_rfl) rfl #[.slice AoV t185.length coV, .slice none 0 0, .int .i64 0, .pointer (some ⟨g, 0, none⟩)] rfl ga_ ?_; (refine (spec_bdSets.calls k _ _ t185 none 0 [] 0 g w.heap.size (.slice none 0 0) [] t188 w4 (SetsSt.foot HS.out HO.out) (Kd.R_reads' HO.out).2.1 (fun W' _ => Kd.C_nil k37 W') (Nat.le_refl _) HB.out.size HS.out A3.out).mono ?_); rintro e w5 ⟨rfl, v5, hs⟩; refine ⟨_, rfl, ?_⟩; have HS5 := Aside0.mk hs; clear hs))
 obtain ⟨AoW, coW, eoW⟩ := Kd.R_slice (Kd.S_R HS5.out.row)
 subst eoW
 have hcz5 : w5.cell? ⟨g, 0, none⟩ = some (.slice AoW t188.length coW) := (blk_cell HS5.out.blk 0).trans rfl
 go_wp2
 go_ret
 exact ⟨_, rfl, HS5.out.row, ⟨HS5.out.eff.os.trans HB.out.os, HS5.out.eff.tape.trans HB.out.tape, HS5.out.eff.output.trans HB.out.output, Nat.le_trans HB.out.size HS5.out.keep.1, fun k_ hk => by
  have hge := GE.out
  exact (HS5.out.keep.2 k_ (Nat.lt_of_lt_of_le hk HB.out.size) (by omega) (by simp [Value.ownBlock])).trans (HB.out.block k_ hk)⟩⟩

end Go.Proofs.Ytnnmpdhijdkpcaa.MW
