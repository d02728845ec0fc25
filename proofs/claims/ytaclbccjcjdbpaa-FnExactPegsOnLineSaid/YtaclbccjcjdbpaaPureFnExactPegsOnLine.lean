/- The program's PegsOnLine returns what the reference's returns, for all arguments. No condition. -/
import Derived.Test.YtaclbccjcjdbpaaMSx0
import Derived.Test.YtaclbccjcjdbpaaMSx2
import Derived.Test.YtaclbccjcjdbpaaMSx3
import Derived.Test.YtaclbccjcjdbpaaMSx4
import Derived.Test.YtaclbccjcjdbpaaMSx7
import Derived.Test.YtaclbccjcjdbpaaMSx8
import Derived.Test.YtaclbccjcjdbpaaMSx9
import Derived.Test.YtaclbccjcjdbpaaV
namespace Go.Proofs.Ytaclbccjcjdbpaa.Pure
open Go.RowKit Go.Proofs.YtaclbccjcjdbpaaV Go.Proofs.Ytaclbccjcjdbpaa.MS Go.Proofs.YtaclbccjcjdbpaaW.PrintWords Go.Proofs.YtaclbccjcjdbpaaW.PrintLast Go.Proofs.YtaclbccjcjdbpaaW.PrintMore

theorem in_eq (a lo hi : Int) : spec_l1In.f a lo hi = some (decide (lo ≤ a ∧ a ≤ hi)) := by
  unfold spec_l1In.f
  by_cases h : lo ≤ a
  · rw [if_pos h]; simp [h]
  · rw [if_neg h]; simp [h]

theorem within_eq (a lo hi : Int) : impl_within.f a lo hi = some (decide (lo ≤ a ∧ a ≤ hi)) := by
  unfold impl_within.f
  by_cases h : lo ≤ a
  · rw [if_pos h]; simp [h]
  · rw [if_neg h]; simp [h]

theorem w64 {x : Int} (h0 : -9223372036854775808 ≤ x) (h1 : x ≤ 9223372036854775807) : wrap64 x = x := by
  unfold wrap64
  omega

/-- A peg's numbers. -/
def pegP (x y : Int) : Prop := (-40 ≤ x ∧ x ≤ 40) ∧ (-40 ≤ y ∧ y ≤ 40)
instance (x y : Int) : Decidable (pegP x y) := by unfold pegP; infer_instance

theorem pgIs_eq (x y : Int) : spec_pgIs.f x y = some (decide (pegP x y)) := by
  unfold spec_pgIs.f pegP
  simp only [in_eq, Option.bind_some]
  by_cases c : -40 ≤ x ∧ x ≤ 40
  · simp [c]
  · simp [c]

theorem implIsPeg_eq (x y : Int) : impl_IsPeg.f x y = some (decide (pegP x y)) := by
  unfold impl_IsPeg.f pegP
  simp only [within_eq, Option.bind_some]
  by_cases c : -40 ≤ x ∧ x ≤ 40
  · simp [c]
  · simp [c]

theorem arePegs_loop (l : List S34) (hl : l.length ≤ 9223372036854775807) (d : Nat) : ∀ (k i : Nat), i + d = l.length → d < k →
    ∃ r, slices_IndexFunc_impl_Peg_impl_Peg.l0 k l (l.length : Int) (i : Int) = some r ∧ decide (r ≥ 0) = (l.drop i).any fun p => !decide (pegP p.f0 p.f1) := by
  induction d with
  | zero =>
    intro k i hi hk
    obtain ⟨k, rfl⟩ : ∃ m, k = m + 1 := ⟨k - 1, by omega⟩
    refine ⟨-1, ?_, ?_⟩
    · simp only [slices_IndexFunc_impl_Peg_impl_Peg.l0]; rw [if_neg (by omega)]
    · rw [List.drop_of_length_le (by omega)]; rfl
  | succ d ih =>
    intro k i hi hk
    obtain ⟨k, rfl⟩ : ∃ m, k = m + 1 := ⟨k - 1, by omega⟩
    have hlt : i < l.length := by omega
    have hd : l.drop i = l[i] :: l.drop (i + 1) := List.drop_eq_getElem_cons hlt
    have hr : rd_T34 l (i : Int) = l[i] := by
      unfold rd_T34
      simp [List.getD_eq_getElem?_getD, List.getElem?_eq_getElem hlt]
    simp only [slices_IndexFunc_impl_Peg_impl_Peg.l0]
    rw [if_pos (by omega), if_pos (by omega), if_pos (by omega), hr]
    unfold impl_arePegs_1.f
    simp only [implIsPeg_eq, Option.bind_some]
    by_cases c : pegP l[i].f0 l[i].f1
    · obtain ⟨r, h1, h2⟩ := ih k (i + 1) (by omega) (by omega)
      refine ⟨r, ?_, ?_⟩
      · rw [if_neg (by simp [c]), w64 (by omega) (by omega)]
        exact h1
      · rw [h2, hd, List.any_cons]; simp [c]
    · refine ⟨(i : Int), by rw [if_pos (by simp [c])], ?_⟩
      rw [hd, List.any_cons]
      simp [c]

theorem arePegs_eq (k : Nat) (l : List S34) (hl : l.length ≤ 9223372036854775807) (hk : l.length < k) : impl_arePegs.f k l = some (l.all fun p => decide (pegP p.f0 p.f1)) := by
  obtain ⟨r, h1, h2⟩ := arePegs_loop l hl l.length k 0 (by omega) hk
  unfold impl_arePegs.f slices_ContainsFunc_impl_Peg_impl_Peg.f slices_IndexFunc_impl_Peg_impl_Peg.f
  rw [show ((0 : Nat) : Int) = 0 from rfl] at h1
  rw [h1]
  simp only [Option.bind_some, h2, List.drop_zero]
  congr 1
  rw [List.all_eq_not_any_not]

theorem size_eq {x : Int} (h : -9223372036854775807 ≤ x ∧ x ≤ 9223372036854775807) : impl_size.f x = some (x.natAbs : Int) := by
  unfold impl_size.f mx
  rw [w64 (x := -x) (by omega) (by omega)]
  split
  · congr 1; omega
  · congr 1; omega

theorem l1Abs_eq {x : Int} (h : -9223372036854775807 ≤ x ∧ x ≤ 9223372036854775807) : spec_l1Abs.f x = some (x.natAbs : Int) := by
  unfold spec_l1Abs.f spec_l1Most.f
  rw [w64 (x := -x) (by omega) (by omega)]
  split
  · show some x = _
    congr 1; omega
  · show some (-x) = _
    congr 1; omega

theorem gcd_step (a b : Int) (hb : b ≠ 0) : Int.gcd b (Int.tmod a b) = Int.gcd a b ∧ (Int.tmod a b).natAbs < b.natAbs := by
  have h1 : (Int.tmod a b).natAbs = a.natAbs % b.natAbs := Int.natAbs_tmod a b
  have hb' : 0 < b.natAbs := by omega
  refine ⟨?_, by rw [h1]; exact Nat.mod_lt _ hb'⟩
  unfold Int.gcd
  rw [h1, Nat.gcd_comm a.natAbs b.natAbs, Nat.gcd_rec b.natAbs a.natAbs, Nat.gcd_comm]

theorem divisor_loop (n : Nat) : ∀ (k : Nat) (a b : Int), b.natAbs ≤ n → n < k → a.natAbs ≤ 9223372036854775807 → b.natAbs ≤ 9223372036854775807 → impl_divisor.l0 k a b = some (Int.gcd a b : Int) := by
  induction n with
  | zero =>
    intro k a b hb hk ha _
    obtain ⟨k, rfl⟩ : ∃ m, k = m + 1 := ⟨k - 1, by omega⟩
    have h0 : b = 0 := by omega
    subst h0
    rw [impl_divisor.l0, if_pos rfl, size_eq (by omega)]
    simp [Int.gcd]
  | succ n ih =>
    intro k a b hb hk ha hb2
    obtain ⟨k, rfl⟩ : ∃ m, k = m + 1 := ⟨k - 1, by omega⟩
    by_cases h0 : b = 0
    · exact ih (k + 1) a b (by omega) (by omega) ha hb2
    · obtain ⟨e, hlt⟩ := gcd_step a b h0
      simp only [impl_divisor.l0]
      rw [if_neg h0, ih k b (Int.tmod a b) (by omega) (by omega) hb2 (by omega), e]

theorem divisor_eq (k : Nat) {a b : Int} (hk : b.natAbs < k) (ha : a.natAbs ≤ 9223372036854775807) (hb : b.natAbs ≤ 9223372036854775807) : impl_divisor.f k a b = some (Int.gcd a b : Int) :=
  divisor_loop b.natAbs k a b (Nat.le_refl _) hk ha hb

theorem common_loop (n : Nat) : ∀ (k : Nat) (a b : Int), 0 ≤ a → 0 ≤ b → b.natAbs ≤ n → n < k → spec_pgCommon.l0 k a b = some (Int.gcd a b : Int) := by
  induction n with
  | zero =>
    intro k a b ha _ hb hk
    obtain ⟨k, rfl⟩ : ∃ m, k = m + 1 := ⟨k - 1, by omega⟩
    have h0 : b = 0 := by omega
    subst h0
    simp only [spec_pgCommon.l0]
    rw [if_neg (by omega)]
    simp only [Int.gcd, Int.natAbs_zero, Nat.gcd_zero_right]
    congr 1; omega
  | succ n ih =>
    intro k a b ha hb0 hb hk
    obtain ⟨k, rfl⟩ : ∃ m, k = m + 1 := ⟨k - 1, by omega⟩
    by_cases h0 : b = 0
    · exact ih (k + 1) a b ha hb0 (by omega) (by omega)
    · obtain ⟨e, hlt⟩ := gcd_step a b h0
      simp only [spec_pgCommon.l0]
      rw [if_pos (by omega), if_neg h0, ih k b (Int.tmod a b) hb0 (Int.tmod_nonneg _ ha) (by omega) (by omega), e]

theorem common_eq (k : Nat) {a b : Int} (hk : b.natAbs < k) (ha : a.natAbs ≤ 9223372036854775807) (hb : b.natAbs ≤ 9223372036854775807) : spec_pgCommon.f k a b = some (Int.gcd a b : Int) := by
  unfold spec_pgCommon.f
  rw [l1Abs_eq (x := a) (by omega), l1Abs_eq (x := b) (by omega)]
  simp only [Option.bind_some]
  rw [common_loop b.natAbs k _ _ (by omega) (by omega) (by omega) hk]
  simp [Int.gcd]

theorem steps_eq (M : Nat) (hM : M ≤ 1000000) (k : Nat) {ax ay bx by_ : Int} (h1 : -(M : Int) ≤ ax ∧ ax ≤ M) (h2 : -(M : Int) ≤ ay ∧ ay ≤ M) (h3 : -(M : Int) ≤ bx ∧ bx ≤ M) (h4 : -(M : Int) ≤ by_ ∧ by_ ≤ M) (hk : 2 * M < k) :
    impl_steps.f k ax ay bx by_ = some (Int.gcd (ax - bx) (ay - by_) : Int) := by
  unfold impl_steps.f
  rw [w64 (x := ax - bx) (by omega) (by omega), w64 (x := ay - by_) (by omega) (by omega), divisor_eq k (by omega) (by omega) (by omega)]
  rfl

theorem pgStep_eq (M : Nat) (hM : M ≤ 1000000) (k : Nat) {ax ay bx by_ : Int} (h1 : -(M : Int) ≤ ax ∧ ax ≤ M) (h2 : -(M : Int) ≤ ay ∧ ay ≤ M) (h3 : -(M : Int) ≤ bx ∧ bx ≤ M) (h4 : -(M : Int) ≤ by_ ∧ by_ ≤ M) (hk : 2 * M < k) :
    spec_pgStep.f k ax ay bx by_ = some (Int.gcd (ax - bx) (ay - by_) : Int) := by
  unfold spec_pgStep.f
  rw [w64 (x := ax - bx) (by omega) (by omega), w64 (x := ay - by_) (by omega) (by omega), common_eq k (by omega) (by omega) (by omega)]
  rfl

theorem pgLine_eq (ax ay bx by_ : Int) : spec_pgLine.f ax ay bx by_ = some (decide (pegP ax ay ∧ pegP bx by_ ∧ ¬ (ax = bx ∧ ay = by_))) := by
  unfold spec_pgLine.f
  simp only [pgIs_eq, Option.bind_some]
  by_cases c1 : pegP ax ay
  · by_cases c2 : pegP bx by_
    · by_cases d1 : ax = bx
      · subst d1
        by_cases d2 : ay = by_
        · subst d2
          simp [c1]
        · simp [c1, c2, d2]
      · simp [c1, c2, d1]
    · simp [c1, c2]
  · simp [c1]

theorem same_end (z : Int) (b : Bool) : ((if (!b) = true then some (z, true) else some (0, false)).bind fun s => (if b = true then some (0, false) else some (z, true)).bind fun t => if t.1 = s.1 then (if (t.2 != s.2) = true then some false else some true) else some false) = some true := by
  cases b <;> simp

/-- The one pure statement of the law FnExactPegsOnLine. -/
def FnExactPegsOnLine.Pure : Prop :=
  ∀ (a0_0 : Int) (a0_1 : Int) (a1_0 : Int) (a1_1 : Int), I64 a0_0 → I64 a0_1 → I64 a1_0 → I64 a1_1 → ∃ k, laws_FnExactPegsOnLine.f k a0_0 a0_1 a1_0 a1_1 = some true

theorem FnExactPegsOnLine : FnExactPegsOnLine.Pure := by
  intro ax ay bx by_ _ _ _ _
  obtain ⟨k, hk⟩ : ∃ k : Nat, 100 ≤ k := ⟨100, Nat.le_refl _⟩
  refine ⟨k, ?_⟩
  unfold laws_FnExactPegsOnLine.f laws_toPeg.f spec_PegsOnLine.f impl_PegsOnLine.f
  simp only [Option.bind_some]
  rw [arePegs_eq k _ (by simp) (by simp; omega), pgLine_eq]
  simp only [Option.bind_some, List.all_cons, List.all_nil, Bool.and_true]
  by_cases c1 : pegP ax ay
  · by_cases c2 : pegP bx by_
    · rw [steps_eq 40 (by omega) k c1.1 c1.2 c2.1 c2.2 (by omega), pgStep_eq 40 (by omega) k c1.1 c1.2 c2.1 c2.2 (by omega)]
      generalize (Int.gcd (ax - bx) (ay - by_) : Int) = g
      rw [Option.bind_some]
      have q1 : ∀ u v u' v' : Int, (u == u' && v == v') = decide (u = u' ∧ v = v') := by
        intro u v u' v'
        rw [Bool.eq_iff_iff, Bool.and_eq_true, beq_iff_eq, beq_iff_eq, decide_eq_true_eq]
      rw [q1, show decide (pegP ax ay ∧ pegP bx by_ ∧ ¬ (ax = bx ∧ ay = by_)) = !decide (ax = bx ∧ ay = by_) by simp [c1, c2], show (decide (pegP ax ay) && decide (pegP bx by_)) = true by simp [c1, c2], if_pos rfl]
      exact same_end (wrap64 (g + 1)) (decide (ax = bx ∧ ay = by_))
    · simp [c1, c2]
  · simp [c1]

end Go.Proofs.Ytaclbccjcjdbpaa.Pure
