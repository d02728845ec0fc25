/- The program's JoinMoves returns what the reference's returns, for all arguments. No condition. -/
import Derived.Test.YtlhiificglpgkaaMJx0
import Derived.Test.YtlhiificglpgkaaMJx1
import Derived.Test.YtlhiificglpgkaaMJx2
import Derived.Test.YtlhiificglpgkaaMJx3
import Derived.Test.YtlhiificglpgkaaV
namespace Go.Proofs.Ytlhiificglpgkaa.Pure
open Go.RowKit Go.Proofs.YtlhiificglpgkaaV Go.Proofs.Ytlhiificglpgkaa.MJ Go.Proofs.YtlhiificglpgkaaW.PrintWords Go.Proofs.YtlhiificglpgkaaW.PrintLast Go.Proofs.YtlhiificglpgkaaW.PrintMore

theorem in_eq (a lo hi : Int) : spec_l1In.f a lo hi = some (decide (lo ≤ a ∧ a ≤ hi)) := by
  unfold spec_l1In.f
  by_cases h : lo ≤ a
  · rw [if_pos h]; simp [h]
  · rw [if_neg h]; simp [h]

theorem within_eq (a lo hi : Int) : impl_within.f a lo hi = some (decide (lo ≤ a ∧ a ≤ hi)) := by
  unfold impl_within.f
  by_cases h : lo ≤ a
  · rw [if_pos h]; simp [h]
  · rw [if_neg h]; simp [h]

theorem w64 {x : Int} (h0 : -9223372036854775808 ≤ x) (h1 : x ≤ 9223372036854775807) : wrap64 x = x := by
  unfold wrap64
  omega

theorem mul_bd {x y : Int} (A B : Nat) (hx : -(A : Int) ≤ x ∧ x ≤ A) (hy : -(B : Int) ≤ y ∧ y ≤ B) : -((A * B : Nat) : Int) ≤ x * y ∧ x * y ≤ ((A * B : Nat) : Int) := by
  have h1 : x.natAbs ≤ A := by omega
  have h2 : y.natAbs ≤ B := by omega
  have h3 := Nat.mul_le_mul h1 h2
  rw [← Int.natAbs_mul] at h3
  omega

/-- A move's numbers. -/
def mvOk (a b c d x y : Int) : Prop := ((-20 ≤ a ∧ a ≤ 20) ∧ (-20 ≤ b ∧ b ≤ 20) ∧ (-20 ≤ c ∧ c ≤ 20) ∧ (-20 ≤ d ∧ d ≤ 20)) ∧ ((-80 ≤ x ∧ x ≤ 80) ∧ (-80 ≤ y ∧ y ≤ 80)) ∧ (a * d - b * c = 1 ∨ a * d - b * c = -1)
instance (a b c d x y : Int) : Decidable (mvOk a b c d x y) := by unfold mvOk; infer_instance

theorem side_w {a b c d : Int} (ha : -20 ≤ a ∧ a ≤ 20) (hb : -20 ≤ b ∧ b ≤ 20) (hc : -20 ≤ c ∧ c ≤ 20) (hd : -20 ≤ d ∧ d ≤ 20) : wrap64 (wrap64 (a * d) - wrap64 (b * c)) = a * d - b * c ∧ (-800 ≤ a * d - b * c ∧ a * d - b * c ≤ 800) := by
  have h1 := mul_bd 20 20 (x := a) (y := d) (by omega) (by omega)
  have h2 := mul_bd 20 20 (x := b) (y := c) (by omega) (by omega)
  rw [w64 (x := a * d) (by omega) (by omega), w64 (x := b * c) (by omega) (by omega), w64 (by omega) (by omega)]
  omega

theorem one_abs (s : Int) : (((if s > -s then some s else some (-s) : Option Int).bind fun t => some t).bind fun t => some (t == 1)) = some (decide (s = 1 ∨ s = -1)) := by
  by_cases hs : s > -s
  · rw [if_pos hs]
    show some (s == 1) = _
    by_cases h : s = 1
    · simp [h]
    · have h2 : ¬ s = -1 := by omega
      simp [h, h2]
  · rw [if_neg hs]
    show some (-s == 1) = _
    by_cases h : s = -1
    · simp [h]
    · have h2 : ¬ s = 1 := by omega
      have h3 : ¬ -s = 1 := by omega
      simp [h, h2, h3]

theorem mvGood_eq (k : Nat) (a b c d x y : Int) (hk : 5 ≤ k) : spec_mvGood.f k a b c d x y = some (decide (mvOk a b c d x y)) := by
  obtain ⟨k, rfl⟩ : ∃ m, k = m + 5 := ⟨k - 5, by omega⟩
  have l4 : spec_l1All.f (k + 5) [a, b, c, d] (-20) 20 = some (decide ((-20 ≤ a ∧ a ≤ 20) ∧ (-20 ≤ b ∧ b ≤ 20) ∧ (-20 ≤ c ∧ c ≤ 20) ∧ (-20 ≤ d ∧ d ≤ 20))) := by
    simp only [spec_l1All.f, spec_l1All.l0, in_eq, rd, wrap64, Option.bind_some]
    by_cases h1 : -20 ≤ a ∧ a ≤ 20
    · by_cases h2 : -20 ≤ b ∧ b ≤ 20
      · by_cases h3 : -20 ≤ c ∧ c ≤ 20
        · by_cases h4 : -20 ≤ d ∧ d ≤ 20
          · simp [h1, h2, h3, h4]
          · simp [h1, h2, h3, h4]
        · simp [h1, h2, h3]
      · simp [h1, h2]
    · simp [h1]
  have l2 : spec_l1All.f (k + 5) [x, y] (-80) 80 = some (decide ((-80 ≤ x ∧ x ≤ 80) ∧ (-80 ≤ y ∧ y ≤ 80))) := by
    simp only [spec_l1All.f, spec_l1All.l0, in_eq, rd, wrap64, Option.bind_some]
    by_cases h1 : -80 ≤ x ∧ x ≤ 80
    · by_cases h2 : -80 ≤ y ∧ y ≤ 80
      · simp [h1, h2]
      · simp [h1, h2]
    · simp [h1]
  unfold spec_mvGood.f
  rw [l4, l2]
  simp only [Option.bind_some]
  by_cases h1 : (-20 ≤ a ∧ a ≤ 20) ∧ (-20 ≤ b ∧ b ≤ 20) ∧ (-20 ≤ c ∧ c ≤ 20) ∧ (-20 ≤ d ∧ d ≤ 20)
  · by_cases h2 : (-80 ≤ x ∧ x ≤ 80) ∧ (-80 ≤ y ∧ y ≤ 80)
    · obtain ⟨e, hb⟩ := side_w h1.1 h1.2.1 h1.2.2.1 h1.2.2.2
      rw [e, if_pos (by simp [h1]), if_pos (by simp [h2])]
      unfold spec_l1Abs.f spec_l1Most.f mvOk
      rw [w64 (x := -(a * d - b * c)) (by omega) (by omega), one_abs]
      simp only [h1, h2, true_and, and_self]
    · rw [if_pos (by simp [h1]), if_neg (by simpa using h2)]
      simp [mvOk, h2]
  · rw [if_neg (by simpa using h1)]
    simp [mvOk, h1]

theorem isWay_eq (x y : Int) (hx : I64 x) (hy : I64 y) : impl_isWay.f x y = some (decide ((-80 ≤ x ∧ x ≤ 80) ∧ (-80 ≤ y ∧ y ≤ 80))) := by
  have key : ∀ z : Int, I64 z → (mx z (wrap64 (-z)) ≤ 80 ∧ z > -1000 ↔ -80 ≤ z ∧ z ≤ 80) := by
    intro z hz
    unfold I64 at hz
    unfold mx wrap64
    split <;> omega
  have kx := key x hx
  have ky := key y hy
  unfold impl_isWay.f impl_size.f
  simp only [Option.bind_some]
  by_cases c1 : mx x (wrap64 (-x)) ≤ 80
  · by_cases c2 : mx y (wrap64 (-y)) ≤ 80
    · by_cases c3 : x > -1000
      · have hx1 := kx.1 ⟨c1, c3⟩
        rw [if_pos c1, if_pos c2, if_pos c3]
        refine congrArg some ?_
        rw [Bool.eq_iff_iff, decide_eq_true_eq, decide_eq_true_eq]
        exact ⟨fun h => ⟨hx1, ky.1 ⟨c2, h⟩⟩, fun h => (ky.2 h.2).2⟩
      · have : ¬ (-80 ≤ x ∧ x ≤ 80) := fun h => c3 (kx.2 h).2
        rw [if_pos c1, if_pos c2, if_neg c3]
        simp [this]
    · have : ¬ (-80 ≤ y ∧ y ≤ 80) := fun h => c2 (ky.2 h).1
      rw [if_pos c1, if_neg c2]
      simp [this]
  · have : ¬ (-80 ≤ x ∧ x ≤ 80) := fun h => c1 (kx.2 h).1
    rw [if_neg c1]
    simp [this]

theorem implIsMove_eq (k : Nat) (a b c d x y : Int) (hk : 5 ≤ k) (hx : I64 x) (hy : I64 y) : impl_IsMove.f k a b c d x y = some (decide (mvOk a b c d x y)) := by
  obtain ⟨k, rfl⟩ : ∃ m, k = m + 5 := ⟨k - 5, by omega⟩
  have l4 : ∀ v, impl_IsMove.l0 (k + 5) [a, b, c, d] 4 0 a b c d x y = v ↔ (if (-20 ≤ a ∧ a ≤ 20) ∧ (-20 ≤ b ∧ b ≤ 20) ∧ (-20 ≤ c ∧ c ≤ 20) ∧ (-20 ≤ d ∧ d ≤ 20) then
      ((impl_isWay.f x y).bind fun t => if t = true then ((impl_Move_side.f a b c d x y).bind fun t => (impl_size.f t).bind fun t => some (t == 1)) else some false) else some false) = v := by
    intro v
    simp only [impl_IsMove.l0, within_eq, rd, wrap64, Option.bind_some]
    by_cases h1 : -20 ≤ a ∧ a ≤ 20
    · by_cases h2 : -20 ≤ b ∧ b ≤ 20
      · by_cases h3 : -20 ≤ c ∧ c ≤ 20
        · by_cases h4 : -20 ≤ d ∧ d ≤ 20
          · simp [h1, h2, h3, h4]
          · simp [h1, h2, h3, h4]
        · simp [h1, h2, h3]
      · simp [h1, h2]
    · simp [h1]
  unfold impl_IsMove.f
  simp only [Option.bind_some, List.length_cons, List.length_nil]
  refine (l4 _).2 ?_
  rw [isWay_eq x y hx hy]
  simp only [Option.bind_some]
  by_cases h1 : (-20 ≤ a ∧ a ≤ 20) ∧ (-20 ≤ b ∧ b ≤ 20) ∧ (-20 ≤ c ∧ c ≤ 20) ∧ (-20 ≤ d ∧ d ≤ 20)
  · by_cases h2 : (-80 ≤ x ∧ x ≤ 80) ∧ (-80 ≤ y ∧ y ≤ 80)
    · obtain ⟨e, hb⟩ := side_w h1.1 h1.2.1 h1.2.2.1 h1.2.2.2
      rw [if_pos h1, if_pos (by simp [h2])]
      unfold impl_Move_side.f impl_size.f mvOk
      simp only [Option.bind_some]
      rw [e, w64 (x := -(a * d - b * c)) (by omega) (by omega)]
      have hm : (mx (a * d - b * c) (-(a * d - b * c)) == 1) = decide (a * d - b * c = 1 ∨ a * d - b * c = -1) := by
        rw [Bool.eq_iff_iff, beq_iff_eq, decide_eq_true_eq]
        unfold mx
        split <;> omega
      rw [hm]
      simp only [h1, h2, true_and, and_self]
    · rw [if_pos h1, if_neg (by simpa using h2)]
      simp [mvOk, h2]
  · rw [if_neg h1]
    simp [mvOk, h1]

theorem i64_wrap (x : Int) : I64 (wrap64 x) := by
  unfold I64 wrap64
  omega

theorem eqMove_self (a b c d x y : Int) : laws_eqMove.f a b c d x y a b c d x y = some true := by
  simp [laws_eqMove.f]

theorem checked_eq (k : Nat) (a b c d x y : Int) (hk : 5 ≤ k) (hx : I64 x) (hy : I64 y) : impl_checkedMove.f k a b c d x y = spec_mvIf.f k a b c d x y := by
  unfold impl_checkedMove.f spec_mvIf.f
  rw [mvGood_eq k _ _ _ _ _ _ hk, implIsMove_eq k _ _ _ _ _ _ hk hx hy]

theorem mvIf_eq (k : Nat) (a b c d x y : Int) (hk : 5 ≤ k) : spec_mvIf.f k a b c d x y = some (if mvOk a b c d x y then (a, b, c, d, x, y, true) else (0, 0, 0, 0, 0, 0, false)) := by
  unfold spec_mvIf.f
  rw [mvGood_eq k _ _ _ _ _ _ hk]
  by_cases h : mvOk a b c d x y
  · simp [h]
  · simp [h]

/-- The one pure statement of the law FnExactJoinMoves. -/
def FnExactJoinMoves.Pure : Prop :=
  ∀ (a0_0 : Int) (a0_1 : Int) (a0_2 : Int) (a0_3 : Int) (a0_4 : Int) (a0_5 : Int) (a1_0 : Int) (a1_1 : Int) (a1_2 : Int) (a1_3 : Int) (a1_4 : Int) (a1_5 : Int), I64 a0_0 → I64 a0_1 → I64 a0_2 → I64 a0_3 → I64 a0_4 → I64 a0_5 → I64 a1_0 → I64 a1_1 → I64 a1_2 → I64 a1_3 → I64 a1_4 → I64 a1_5 → ∃ k, laws_FnExactJoinMoves.f k a0_0 a0_1 a0_2 a0_3 a0_4 a0_5 a1_0 a1_1 a1_2 a1_3 a1_4 a1_5 = some true

theorem FnExactJoinMoves : FnExactJoinMoves.Pure := by
  intro a b c d x y a' b' c' d' x' y' _ _ _ _ hx hy _ _ _ _ hx' hy'
  refine ⟨6, ?_⟩
  have e : impl_JoinMoves.f 6 a b c d x y a' b' c' d' x' y' = spec_JoinMoves.f 6 a b c d x y a' b' c' d' x' y' := by
    unfold impl_JoinMoves.f spec_JoinMoves.f
    rw [mvGood_eq 6 _ _ _ _ _ _ (by omega), implIsMove_eq 6 _ _ _ _ _ _ (by omega) hx hy, mvGood_eq 6 _ _ _ _ _ _ (by omega), implIsMove_eq 6 _ _ _ _ _ _ (by omega) hx' hy']
    simp only [impl_JoinMoves.j0, spec_JoinMoves.j0, impl_Move_bring.f, spec_mvPeg.f, Option.bind_some]
    rw [checked_eq 5 _ _ _ _ _ _ (by omega) (i64_wrap _) (i64_wrap _)]
  obtain ⟨r, hr⟩ : ∃ r, spec_JoinMoves.f 6 a b c d x y a' b' c' d' x' y' = some r := by
    unfold spec_JoinMoves.f
    rw [mvGood_eq 6 _ _ _ _ _ _ (by omega), mvGood_eq 6 _ _ _ _ _ _ (by omega)]
    simp only [spec_JoinMoves.j0, spec_mvPeg.f, Option.bind_some]
    rw [mvIf_eq 5 _ _ _ _ _ _ (by omega)]
    simp only [Option.bind_some]
    split
    · split
      · exact ⟨_, rfl⟩
      · exact ⟨_, rfl⟩
    · exact ⟨_, rfl⟩
  unfold laws_FnExactJoinMoves.f laws_toMove.f
  simp only [Option.bind_some]
  rw [e, hr]
  simp [eqMove_self]

end Go.Proofs.Ytlhiificglpgkaa.Pure
