/- The program's DoLinesMeet returns what the reference's returns, for all arguments. No condition. -/
import Derived.Test.YtaclbccjcjdbpaaMSx0
import Derived.Test.YtaclbccjcjdbpaaMSx2
import Derived.Test.YtaclbccjcjdbpaaMSx3
import Derived.Test.YtaclbccjcjdbpaaMSx4
import Derived.Test.YtaclbccjcjdbpaaMSx7
import Derived.Test.YtaclbccjcjdbpaaMSx9
import Derived.Test.YtaclbccjcjdbpaaMSx10
import Derived.Test.YtaclbccjcjdbpaaMSx11
import Derived.Test.YtaclbccjcjdbpaaMSx12
import Derived.Test.YtaclbccjcjdbpaaMSx13
import Derived.Test.YtaclbccjcjdbpaaMSx14
import Derived.Test.YtaclbccjcjdbpaaMSx15
import Derived.Test.YtaclbccjcjdbpaaV
namespace Go.Proofs.Ytaclbccjcjdbpaa.Pure
open Go.RowKit Go.Proofs.YtaclbccjcjdbpaaV Go.Proofs.Ytaclbccjcjdbpaa.MS Go.Proofs.YtaclbccjcjdbpaaW.PrintWords Go.Proofs.YtaclbccjcjdbpaaW.PrintLast Go.Proofs.YtaclbccjcjdbpaaW.PrintMore

theorem in_eq (a lo hi : Int) : spec_l1In.f a lo hi = some (decide (lo ≤ a ∧ a ≤ hi)) := by
  unfold spec_l1In.f
  by_cases h : lo ≤ a
  · rw [if_pos h]; simp [h]
  · rw [if_neg h]; simp [h]

theorem within_eq (a lo hi : Int) : impl_within.f a lo hi = some (decide (lo ≤ a ∧ a ≤ hi)) := by
  unfold impl_within.f
  by_cases h : lo ≤ a
  · rw [if_pos h]; simp [h]
  · rw [if_neg h]; simp [h]

theorem w64 {x : Int} (h0 : -9223372036854775808 ≤ x) (h1 : x ≤ 9223372036854775807) : wrap64 x = x := by
  unfold wrap64
  omega

theorem mul_bd {x y : Int} (A B : Nat) (hx : -(A : Int) ≤ x ∧ x ≤ A) (hy : -(B : Int) ≤ y ∧ y ≤ B) : -((A * B : Nat) : Int) ≤ x * y ∧ x * y ≤ ((A * B : Nat) : Int) := by
  have h1 : x.natAbs ≤ A := by omega
  have h2 : y.natAbs ≤ B := by omega
  have h3 := Nat.mul_le_mul h1 h2
  rw [← Int.natAbs_mul] at h3
  omega

/-- A peg's numbers. -/
def pegP (x y : Int) : Prop := (-40 ≤ x ∧ x ≤ 40) ∧ (-40 ≤ y ∧ y ≤ 40)
instance (x y : Int) : Decidable (pegP x y) := by unfold pegP; infer_instance

theorem pgIs_eq (x y : Int) : spec_pgIs.f x y = some (decide (pegP x y)) := by
  unfold spec_pgIs.f pegP
  simp only [in_eq, Option.bind_some]
  by_cases c : -40 ≤ x ∧ x ≤ 40
  · simp [c]
  · simp [c]

theorem implIsPeg_eq (x y : Int) : impl_IsPeg.f x y = some (decide (pegP x y)) := by
  unfold impl_IsPeg.f pegP
  simp only [within_eq, Option.bind_some]
  by_cases c : -40 ≤ x ∧ x ≤ 40
  · simp [c]
  · simp [c]

theorem arePegs_loop (l : List S34) (hl : l.length ≤ 9223372036854775807) (d : Nat) : ∀ (k i : Nat), i + d = l.length → d < k →
    ∃ r, slices_IndexFunc_impl_Peg_impl_Peg.l0 k l (l.length : Int) (i : Int) = some r ∧ decide (r ≥ 0) = (l.drop i).any fun p => !decide (pegP p.f0 p.f1) := by
  induction d with
  | zero =>
    intro k i hi hk
    obtain ⟨k, rfl⟩ : ∃ m, k = m + 1 := ⟨k - 1, by omega⟩
    refine ⟨-1, ?_, ?_⟩
    · simp only [slices_IndexFunc_impl_Peg_impl_Peg.l0]; rw [if_neg (by omega)]
    · rw [List.drop_of_length_le (by omega)]; rfl
  | succ d ih =>
    intro k i hi hk
    obtain ⟨k, rfl⟩ : ∃ m, k = m + 1 := ⟨k - 1, by omega⟩
    have hlt : i < l.length := by omega
    have hd : l.drop i = l[i] :: l.drop (i + 1) := List.drop_eq_getElem_cons hlt
    have hr : rd_T34 l (i : Int) = l[i] := by
      unfold rd_T34
      simp [List.getD_eq_getElem?_getD, List.getElem?_eq_getElem hlt]
    simp only [slices_IndexFunc_impl_Peg_impl_Peg.l0]
    rw [if_pos (by omega), if_pos (by omega), if_pos (by omega), hr]
    unfold impl_arePegs_1.f
    simp only [implIsPeg_eq, Option.bind_some]
    by_cases c : pegP l[i].f0 l[i].f1
    · obtain ⟨r, h1, h2⟩ := ih k (i + 1) (by omega) (by omega)
      refine ⟨r, ?_, ?_⟩
      · rw [if_neg (by simp [c]), w64 (by omega) (by omega)]
        exact h1
      · rw [h2, hd, List.any_cons]; simp [c]
    · refine ⟨(i : Int), by rw [if_pos (by simp [c])], ?_⟩
      rw [hd, List.any_cons]
      simp [c]

theorem arePegs_eq (k : Nat) (l : List S34) (hl : l.length ≤ 9223372036854775807) (hk : l.length < k) : impl_arePegs.f k l = some (l.all fun p => decide (pegP p.f0 p.f1)) := by
  obtain ⟨r, h1, h2⟩ := arePegs_loop l hl l.length k 0 (by omega) hk
  unfold impl_arePegs.f slices_ContainsFunc_impl_Peg_impl_Peg.f slices_IndexFunc_impl_Peg_impl_Peg.f
  rw [show ((0 : Nat) : Int) = 0 from rfl] at h1
  rw [h1]
  simp only [Option.bind_some, h2, List.drop_zero]
  congr 1
  rw [List.all_eq_not_any_not]

/-- Twice the area of three points. -/
def tri (ax ay bx by_ cx cy : Int) : Int := (bx - ax) * (cy - ay) - (by_ - ay) * (cx - ax)

theorem pgTurn_eq (M : Nat) (hM : M ≤ 1000000) {ax ay bx by_ cx cy : Int} (h1 : -(M : Int) ≤ ax ∧ ax ≤ M) (h2 : -(M : Int) ≤ ay ∧ ay ≤ M) (h3 : -(M : Int) ≤ bx ∧ bx ≤ M) (h4 : -(M : Int) ≤ by_ ∧ by_ ≤ M) (h5 : -(M : Int) ≤ cx ∧ cx ≤ M) (h6 : -(M : Int) ≤ cy ∧ cy ≤ M) :
    spec_pgTurn.f ax ay bx by_ cx cy = some (tri ax ay bx by_ cx cy) := by
  unfold spec_pgTurn.f tri
  rw [w64 (x := bx - ax) (by omega) (by omega), w64 (x := cy - ay) (by omega) (by omega), w64 (x := by_ - ay) (by omega) (by omega), w64 (x := cx - ax) (by omega) (by omega)]
  have q1 := mul_bd 2000000 2000000 (x := bx - ax) (y := cy - ay) (by omega) (by omega)
  have q2 := mul_bd 2000000 2000000 (x := by_ - ay) (y := cx - ax) (by omega) (by omega)
  rw [w64 (x := (bx - ax) * (cy - ay)) (by omega) (by omega), w64 (x := (by_ - ay) * (cx - ax)) (by omega) (by omega), w64 (by omega) (by omega)]

theorem turn_eq (M : Nat) (hM : M ≤ 1000000) {ax ay bx by_ cx cy : Int} (h1 : -(M : Int) ≤ ax ∧ ax ≤ M) (h2 : -(M : Int) ≤ ay ∧ ay ≤ M) (h3 : -(M : Int) ≤ bx ∧ bx ≤ M) (h4 : -(M : Int) ≤ by_ ∧ by_ ≤ M) (h5 : -(M : Int) ≤ cx ∧ cx ≤ M) (h6 : -(M : Int) ≤ cy ∧ cy ≤ M) :
    impl_turn.f ax ay bx by_ cx cy = some (tri ax ay bx by_ cx cy) := by
  unfold impl_turn.f impl_Peg_less.f impl_cross.f tri
  simp only [Option.bind_some]
  rw [w64 (x := bx - ax) (by omega) (by omega), w64 (x := cy - ay) (by omega) (by omega), w64 (x := by_ - ay) (by omega) (by omega), w64 (x := cx - ax) (by omega) (by omega)]
  have q1 := mul_bd 2000000 2000000 (x := bx - ax) (y := cy - ay) (by omega) (by omega)
  have q2 := mul_bd 2000000 2000000 (x := by_ - ay) (y := cx - ax) (by omega) (by omega)
  rw [w64 (x := (bx - ax) * (cy - ay)) (by omega) (by omega), w64 (x := (by_ - ay) * (cx - ax)) (by omega) (by omega), w64 (by omega) (by omega)]

theorem between_iff (a b p : Int) : (a - p) * (b - p) ≤ 0 ↔ mn a b ≤ p ∧ p ≤ mx a b := by
  have e1 : mn a b ≤ p ↔ a ≤ p ∨ b ≤ p := by unfold mn; split <;> omega
  have e2 : p ≤ mx a b ↔ p ≤ a ∨ p ≤ b := by unfold mx; split <;> omega
  rw [e1, e2]
  rcases Int.lt_trichotomy a p with h1 | h1 | h1
  · rcases Int.lt_trichotomy b p with h2 | h2 | h2
    · have := Int.mul_pos_of_neg_of_neg (show a - p < 0 by omega) (show b - p < 0 by omega)
      omega
    · subst h2; simp
    · have := Int.mul_neg_of_neg_of_pos (show a - p < 0 by omega) (show 0 < b - p by omega)
      omega
  · subst h1; simp
  · rcases Int.lt_trichotomy b p with h2 | h2 | h2
    · have := Int.mul_neg_of_pos_of_neg (show 0 < a - p by omega) (show b - p < 0 by omega)
      omega
    · subst h2; simp
    · have := Int.mul_pos (show 0 < a - p by omega) (show 0 < b - p by omega)
      omega

/-- A point is on a line. -/
def onP (ax ay bx by_ px py : Int) : Prop := tri ax ay bx by_ px py = 0 ∧ (mn ax bx ≤ px ∧ px ≤ mx ax bx) ∧ (mn ay by_ ≤ py ∧ py ≤ mx ay by_)
instance (ax ay bx by_ px py : Int) : Decidable (onP ax ay bx by_ px py) := by unfold onP; infer_instance

theorem pgOn_eq (M : Nat) (hM : M ≤ 1000000) {ax ay bx by_ cx cy : Int} (h1 : -(M : Int) ≤ ax ∧ ax ≤ M) (h2 : -(M : Int) ≤ ay ∧ ay ≤ M) (h3 : -(M : Int) ≤ bx ∧ bx ≤ M) (h4 : -(M : Int) ≤ by_ ∧ by_ ≤ M) (h5 : -(M : Int) ≤ cx ∧ cx ≤ M) (h6 : -(M : Int) ≤ cy ∧ cy ≤ M) :
    spec_pgOn.f ax ay bx by_ cx cy = some (decide (onP ax ay bx by_ cx cy)) := by
  unfold spec_pgOn.f onP
  rw [pgTurn_eq M hM h1 h2 h3 h4 h5 h6, w64 (x := ax - cx) (by omega) (by omega), w64 (x := bx - cx) (by omega) (by omega), w64 (x := ay - cy) (by omega) (by omega), w64 (x := by_ - cy) (by omega) (by omega)]
  have q1 := mul_bd 2000000 2000000 (x := ax - cx) (y := bx - cx) (by omega) (by omega)
  have q2 := mul_bd 2000000 2000000 (x := ay - cy) (y := by_ - cy) (by omega) (by omega)
  rw [w64 (x := (ax - cx) * (bx - cx)) (by omega) (by omega), w64 (x := (ay - cy) * (by_ - cy)) (by omega) (by omega)]
  simp only [Option.bind_some, between_iff]
  by_cases c1 : tri ax ay bx by_ cx cy = 0
  · by_cases c2 : mn ax bx ≤ cx ∧ cx ≤ mx ax bx
    · simp [c1, c2]
    · simp [c1, c2]
  · simp [c1]

theorem isOn_eq (M : Nat) (hM : M ≤ 1000000) {ax ay bx by_ cx cy : Int} (h1 : -(M : Int) ≤ ax ∧ ax ≤ M) (h2 : -(M : Int) ≤ ay ∧ ay ≤ M) (h3 : -(M : Int) ≤ bx ∧ bx ≤ M) (h4 : -(M : Int) ≤ by_ ∧ by_ ≤ M) (h5 : -(M : Int) ≤ cx ∧ cx ≤ M) (h6 : -(M : Int) ≤ cy ∧ cy ≤ M) :
    impl_isOn.f ax ay bx by_ cx cy = some (decide (onP ax ay bx by_ cx cy)) := by
  unfold impl_isOn.f onP
  rw [turn_eq M hM h1 h2 h3 h4 h5 h6]
  simp only [Option.bind_some, within_eq]
  by_cases c1 : tri ax ay bx by_ cx cy = 0
  · by_cases c2 : mn ax bx ≤ cx ∧ cx ≤ mx ax bx
    · simp [c1, c2]
    · simp [c1, c2]
  · simp [c1]

theorem pgLine_eq (ax ay bx by_ : Int) : spec_pgLine.f ax ay bx by_ = some (decide (pegP ax ay ∧ pegP bx by_ ∧ ¬ (ax = bx ∧ ay = by_))) := by
  unfold spec_pgLine.f
  simp only [pgIs_eq, Option.bind_some]
  by_cases c1 : pegP ax ay
  · by_cases c2 : pegP bx by_
    · by_cases d1 : ax = bx
      · subst d1
        by_cases d2 : ay = by_
        · subst d2
          simp [c1]
        · simp [c1, c2, d2]
      · simp [c1, c2, d1]
    · simp [c1, c2]
  · simp [c1]

/-- The sign of a number. -/
def sgn (x : Int) : Int := if 0 < x then 1 else if x < 0 then -1 else 0
theorem implSign_eq (x : Int) : impl_sign.f x = some (sgn x) := by
  unfold impl_sign.f sgn mn mx
  congr 1
  repeat' split
  all_goals omega
theorem specSign_eq (x : Int) : spec_l1Sign.f x = some (sgn x) := by
  unfold spec_l1Sign.f sgn
  repeat' split
  all_goals first | rfl | omega
theorem sgn_mul_w (x y : Int) : wrap64 (sgn x * sgn y) = sgn x * sgn y := by
  have h : ∀ z : Int, sgn z = 1 ∨ sgn z = -1 ∨ sgn z = 0 := by
    intro z
    unfold sgn
    repeat' split
    all_goals omega
  rcases h x with hx | hx | hx <;> rcases h y with hy | hy | hy <;> rw [hx, hy] <;> exact w64 (by decide) (by decide)

/-- The one pure statement of the law FnExactDoLinesMeet. -/
def FnExactDoLinesMeet.Pure : Prop :=
  ∀ (a0_0 : Int) (a0_1 : Int) (a1_0 : Int) (a1_1 : Int) (a2_0 : Int) (a2_1 : Int) (a3_0 : Int) (a3_1 : Int), I64 a0_0 → I64 a0_1 → I64 a1_0 → I64 a1_1 → I64 a2_0 → I64 a2_1 → I64 a3_0 → I64 a3_1 → ∃ k, laws_FnExactDoLinesMeet.f k a0_0 a0_1 a1_0 a1_1 a2_0 a2_1 a3_0 a3_1 = some true

theorem FnExactDoLinesMeet : FnExactDoLinesMeet.Pure := by
  intro ax ay bx by_ cx cy dx dy _ _ _ _ _ _ _ _
  refine ⟨8, ?_⟩
  unfold laws_FnExactDoLinesMeet.f laws_toPeg.f spec_DoLinesMeet.f impl_DoLinesMeet.f
  simp only [Option.bind_some]
  rw [arePegs_eq 8 _ (by simp) (by simp), pgLine_eq, pgLine_eq]
  simp only [Option.bind_some, List.all_cons, List.all_nil, Bool.and_true]
  by_cases c1 : pegP ax ay
  · by_cases c2 : pegP bx by_
    · by_cases c3 : pegP cx cy
      · by_cases c4 : pegP dx dy
        · have e : impl_meet.f 8 ax ay bx by_ cx cy dx dy = spec_pgMeet.f 8 ax ay bx by_ cx cy dx dy ∧ ∃ b, spec_pgMeet.f 8 ax ay bx by_ cx cy dx dy = some b := by
            unfold impl_meet.f spec_pgMeet.f
            simp only [impl_meet.j0, spec_pgMeet.j0]
            rw [turn_eq 40 (by omega) c1.1 c1.2 c2.1 c2.2 c3.1 c3.2, turn_eq 40 (by omega) c1.1 c1.2 c2.1 c2.2 c4.1 c4.2, turn_eq 40 (by omega) c3.1 c3.2 c4.1 c4.2 c1.1 c1.2, turn_eq 40 (by omega) c3.1 c3.2 c4.1 c4.2 c2.1 c2.2,
              isOn_eq 40 (by omega) c1.1 c1.2 c2.1 c2.2 c3.1 c3.2, isOn_eq 40 (by omega) c1.1 c1.2 c2.1 c2.2 c4.1 c4.2, isOn_eq 40 (by omega) c3.1 c3.2 c4.1 c4.2 c1.1 c1.2, isOn_eq 40 (by omega) c3.1 c3.2 c4.1 c4.2 c2.1 c2.2,
              pgTurn_eq 40 (by omega) c1.1 c1.2 c2.1 c2.2 c3.1 c3.2, pgTurn_eq 40 (by omega) c1.1 c1.2 c2.1 c2.2 c4.1 c4.2, pgTurn_eq 40 (by omega) c3.1 c3.2 c4.1 c4.2 c1.1 c1.2, pgTurn_eq 40 (by omega) c3.1 c3.2 c4.1 c4.2 c2.1 c2.2,
              pgOn_eq 40 (by omega) c1.1 c1.2 c2.1 c2.2 c3.1 c3.2, pgOn_eq 40 (by omega) c1.1 c1.2 c2.1 c2.2 c4.1 c4.2, pgOn_eq 40 (by omega) c3.1 c3.2 c4.1 c4.2 c1.1 c1.2, pgOn_eq 40 (by omega) c3.1 c3.2 c4.1 c4.2 c2.1 c2.2]
            simp only [Option.bind_some, implSign_eq, specSign_eq, sgn_mul_w]
            generalize decide (onP ax ay bx by_ cx cy) = o1
            generalize decide (onP ax ay bx by_ dx dy) = o2
            generalize decide (onP cx cy dx dy ax ay) = o3
            generalize decide (onP cx cy dx dy bx by_) = o4
            by_cases h1 : sgn (tri ax ay bx by_ cx cy) * sgn (tri ax ay bx by_ dx dy) < 0
            · by_cases h2 : sgn (tri cx cy dx dy ax ay) * sgn (tri cx cy dx dy bx by_) < 0
              · cases o1 <;> cases o2 <;> cases o3 <;> cases o4 <;> simp [h1, h2]
              · cases o1 <;> cases o2 <;> cases o3 <;> cases o4 <;> simp [h1, h2]
            · cases o1 <;> cases o2 <;> cases o3 <;> cases o4 <;> simp [h1]
          obtain ⟨e1, b, e2⟩ := e
          rw [e1, e2]
          have q1 : ∀ u v u' v' : Int, (u == u' && v == v') = decide (u = u' ∧ v = v') := by
            intro u v u' v'
            rw [Bool.eq_iff_iff, Bool.and_eq_true, beq_iff_eq, beq_iff_eq, decide_eq_true_eq]
          simp only [q1, c1, c2, c3, c4, true_and, decide_true, Bool.and_self, if_true]
          simp only [decide_not]
          generalize decide (ax = bx ∧ ay = by_) = g1
          generalize decide (cx = dx ∧ cy = dy) = g2
          cases g1 <;> cases g2 <;> simp
        · simp [c1, c2, c3, c4]
      · simp [c1, c2, c3]
    · simp [c1, c2]
  · simp [c1]

end Go.Proofs.Ytaclbccjcjdbpaa.Pure
