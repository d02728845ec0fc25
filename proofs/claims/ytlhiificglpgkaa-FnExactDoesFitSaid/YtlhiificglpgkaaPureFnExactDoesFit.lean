/- The program's DoesFit returns what the reference's returns, for all arguments. No condition. -/
import Derived.Test.YtlhiificglpgkaaMAx0
import Derived.Test.YtlhiificglpgkaaMAx2
import Derived.Test.YtlhiificglpgkaaMAx3
import Derived.Test.YtlhiificglpgkaaMAx4
import Derived.Test.YtlhiificglpgkaaMAx5
import Derived.Test.YtlhiificglpgkaaMAx6
import Derived.Test.YtlhiificglpgkaaMAx7
import Derived.Test.YtlhiificglpgkaaMAx8
import Derived.Test.YtlhiificglpgkaaMAx9
import Derived.Test.YtlhiificglpgkaaV
namespace Go.Proofs.Ytlhiificglpgkaa.Pure
open Go.RowKit Go.Proofs.YtlhiificglpgkaaV Go.Proofs.Ytlhiificglpgkaa.MA Go.Proofs.YtlhiificglpgkaaW.PrintWords Go.Proofs.YtlhiificglpgkaaW.PrintLast Go.Proofs.YtlhiificglpgkaaW.PrintMore

theorem in_eq (a lo hi : Int) : spec_l1In.f a lo hi = some (decide (lo ≤ a ∧ a ≤ hi)) := by
  unfold spec_l1In.f
  by_cases h : lo ≤ a
  · rw [if_pos h]; simp [h]
  · rw [if_neg h]; simp [h]

theorem within_eq (a lo hi : Int) : impl_within.f a lo hi = some (decide (lo ≤ a ∧ a ≤ hi)) := by
  unfold impl_within.f
  by_cases h : lo ≤ a
  · rw [if_pos h]; simp [h]
  · rw [if_neg h]; simp [h]

theorem w64 {x : Int} (h0 : -9223372036854775808 ≤ x) (h1 : x ≤ 9223372036854775807) : wrap64 x = x := by
  unfold wrap64
  omega

theorem mul_bd {x y : Int} (A B : Nat) (hx : -(A : Int) ≤ x ∧ x ≤ A) (hy : -(B : Int) ≤ y ∧ y ≤ B) : -((A * B : Nat) : Int) ≤ x * y ∧ x * y ≤ ((A * B : Nat) : Int) := by
  have h1 : x.natAbs ≤ A := by omega
  have h2 : y.natAbs ≤ B := by omega
  have h3 := Nat.mul_le_mul h1 h2
  rw [← Int.natAbs_mul] at h3
  omega

/-- Twice the area of three points. -/
def tri (ax ay bx by_ cx cy : Int) : Int := (bx - ax) * (cy - ay) - (by_ - ay) * (cx - ax)

theorem pgTurn_eq (M : Nat) (hM : M ≤ 1000000) {ax ay bx by_ cx cy : Int} (h1 : -(M : Int) ≤ ax ∧ ax ≤ M) (h2 : -(M : Int) ≤ ay ∧ ay ≤ M) (h3 : -(M : Int) ≤ bx ∧ bx ≤ M) (h4 : -(M : Int) ≤ by_ ∧ by_ ≤ M) (h5 : -(M : Int) ≤ cx ∧ cx ≤ M) (h6 : -(M : Int) ≤ cy ∧ cy ≤ M) :
    spec_pgTurn.f ax ay bx by_ cx cy = some (tri ax ay bx by_ cx cy) := by
  unfold spec_pgTurn.f tri
  rw [w64 (x := bx - ax) (by omega) (by omega), w64 (x := cy - ay) (by omega) (by omega), w64 (x := by_ - ay) (by omega) (by omega), w64 (x := cx - ax) (by omega) (by omega)]
  have q1 := mul_bd 2000000 2000000 (x := bx - ax) (y := cy - ay) (by omega) (by omega)
  have q2 := mul_bd 2000000 2000000 (x := by_ - ay) (y := cx - ax) (by omega) (by omega)
  rw [w64 (x := (bx - ax) * (cy - ay)) (by omega) (by omega), w64 (x := (by_ - ay) * (cx - ax)) (by omega) (by omega), w64 (by omega) (by omega)]

theorem size_eq {x : Int} (h : -9223372036854775807 ≤ x ∧ x ≤ 9223372036854775807) : impl_size.f x = some (x.natAbs : Int) := by
  unfold impl_size.f mx
  rw [w64 (x := -x) (by omega) (by omega)]
  split
  · congr 1; omega
  · congr 1; omega

theorem l1Abs_eq {x : Int} (h : -9223372036854775807 ≤ x ∧ x ≤ 9223372036854775807) : spec_l1Abs.f x = some (x.natAbs : Int) := by
  unfold spec_l1Abs.f spec_l1Most.f
  rw [w64 (x := -x) (by omega) (by omega)]
  split
  · show some x = _
    congr 1; omega
  · show some (-x) = _
    congr 1; omega

theorem gcd_step (a b : Int) (hb : b ≠ 0) : Int.gcd b (Int.tmod a b) = Int.gcd a b ∧ (Int.tmod a b).natAbs < b.natAbs := by
  have h1 : (Int.tmod a b).natAbs = a.natAbs % b.natAbs := Int.natAbs_tmod a b
  have hb' : 0 < b.natAbs := by omega
  refine ⟨?_, by rw [h1]; exact Nat.mod_lt _ hb'⟩
  unfold Int.gcd
  rw [h1, Nat.gcd_comm a.natAbs b.natAbs, Nat.gcd_rec b.natAbs a.natAbs, Nat.gcd_comm]

theorem divisor_loop (n : Nat) : ∀ (k : Nat) (a b : Int), b.natAbs ≤ n → n < k → a.natAbs ≤ 9223372036854775807 → b.natAbs ≤ 9223372036854775807 → impl_divisor.l0 k a b = some (Int.gcd a b : Int) := by
  induction n with
  | zero =>
    intro k a b hb hk ha _
    obtain ⟨k, rfl⟩ : ∃ m, k = m + 1 := ⟨k - 1, by omega⟩
    have h0 : b = 0 := by omega
    subst h0
    rw [impl_divisor.l0, if_pos rfl, size_eq (by omega)]
    simp [Int.gcd]
  | succ n ih =>
    intro k a b hb hk ha hb2
    obtain ⟨k, rfl⟩ : ∃ m, k = m + 1 := ⟨k - 1, by omega⟩
    by_cases h0 : b = 0
    · exact ih (k + 1) a b (by omega) (by omega) ha hb2
    · obtain ⟨e, hlt⟩ := gcd_step a b h0
      simp only [impl_divisor.l0]
      rw [if_neg h0, ih k b (Int.tmod a b) (by omega) (by omega) hb2 (by omega), e]

theorem divisor_eq (k : Nat) {a b : Int} (hk : b.natAbs < k) (ha : a.natAbs ≤ 9223372036854775807) (hb : b.natAbs ≤ 9223372036854775807) : impl_divisor.f k a b = some (Int.gcd a b : Int) :=
  divisor_loop b.natAbs k a b (Nat.le_refl _) hk ha hb

theorem common_loop (n : Nat) : ∀ (k : Nat) (a b : Int), 0 ≤ a → 0 ≤ b → b.natAbs ≤ n → n < k → spec_pgCommon.l0 k a b = some (Int.gcd a b : Int) := by
  induction n with
  | zero =>
    intro k a b ha _ hb hk
    obtain ⟨k, rfl⟩ : ∃ m, k = m + 1 := ⟨k - 1, by omega⟩
    have h0 : b = 0 := by omega
    subst h0
    simp only [spec_pgCommon.l0]
    rw [if_neg (by omega)]
    simp only [Int.gcd, Int.natAbs_zero, Nat.gcd_zero_right]
    congr 1; omega
  | succ n ih =>
    intro k a b ha hb0 hb hk
    obtain ⟨k, rfl⟩ : ∃ m, k = m + 1 := ⟨k - 1, by omega⟩
    by_cases h0 : b = 0
    · exact ih (k + 1) a b ha hb0 (by omega) (by omega)
    · obtain ⟨e, hlt⟩ := gcd_step a b h0
      simp only [spec_pgCommon.l0]
      rw [if_pos (by omega), if_neg h0, ih k b (Int.tmod a b) hb0 (Int.tmod_nonneg _ ha) (by omega) (by omega), e]

theorem common_eq (k : Nat) {a b : Int} (hk : b.natAbs < k) (ha : a.natAbs ≤ 9223372036854775807) (hb : b.natAbs ≤ 9223372036854775807) : spec_pgCommon.f k a b = some (Int.gcd a b : Int) := by
  unfold spec_pgCommon.f
  rw [l1Abs_eq (x := a) (by omega), l1Abs_eq (x := b) (by omega)]
  simp only [Option.bind_some]
  rw [common_loop b.natAbs k _ _ (by omega) (by omega) (by omega) hk]
  simp [Int.gcd]

theorem steps_eq (M : Nat) (hM : M ≤ 1000000) (k : Nat) {ax ay bx by_ : Int} (h1 : -(M : Int) ≤ ax ∧ ax ≤ M) (h2 : -(M : Int) ≤ ay ∧ ay ≤ M) (h3 : -(M : Int) ≤ bx ∧ bx ≤ M) (h4 : -(M : Int) ≤ by_ ∧ by_ ≤ M) (hk : 2 * M < k) :
    impl_steps.f k ax ay bx by_ = some (Int.gcd (ax - bx) (ay - by_) : Int) := by
  unfold impl_steps.f
  rw [w64 (x := ax - bx) (by omega) (by omega), w64 (x := ay - by_) (by omega) (by omega), divisor_eq k (by omega) (by omega) (by omega)]
  rfl

theorem pgStep_eq (M : Nat) (hM : M ≤ 1000000) (k : Nat) {ax ay bx by_ : Int} (h1 : -(M : Int) ≤ ax ∧ ax ≤ M) (h2 : -(M : Int) ≤ ay ∧ ay ≤ M) (h3 : -(M : Int) ≤ bx ∧ bx ≤ M) (h4 : -(M : Int) ≤ by_ ∧ by_ ≤ M) (hk : 2 * M < k) :
    spec_pgStep.f k ax ay bx by_ = some (Int.gcd (ax - bx) (ay - by_) : Int) := by
  unfold spec_pgStep.f
  rw [w64 (x := ax - bx) (by omega) (by omega), w64 (x := ay - by_) (by omega) (by omega), common_eq k (by omega) (by omega) (by omega)]
  rfl

/-- A clue of a board. -/
def clueP (s kd a b c : Int) : Prop := ((kd = 0 ∨ kd = 1) ∧ (0 ≤ a ∧ a ≤ s) ∧ b = 0 ∧ c = 0) ∨ (kd = 2 ∧ (0 ≤ a ∧ a ≤ 2 * s) ∧ b = 0 ∧ c = 0) ∨ ((kd = 3 ∨ kd = 4 ∨ kd = 5) ∧ (0 ≤ a ∧ a ≤ s) ∧ (0 ≤ b ∧ b ≤ s) ∧ (0 ≤ c ∧ c ≤ (if kd = 3 then s * s else if kd = 4 then 2 * s * s else 1)))
instance (s kd a b c : Int) : Decidable (clueP s kd a b c) := by unfold clueP; infer_instance

theorem clue_sq {s : Int} (hs : 1 ≤ s ∧ s ≤ 12) : wrap64 (2 * s) = 2 * s ∧ wrap64 (s * s) = s * s ∧ wrap64 (2 * s * s) = 2 * s * s := by
  have hq := mul_bd 12 12 (x := s) (y := s) (by omega) (by omega)
  refine ⟨w64 (by omega) (by omega), w64 (by omega) (by omega), ?_⟩
  rw [Int.mul_assoc]
  exact w64 (by omega) (by omega)

theorem clue_cases {s : Int} (kd a b : Int) (hs : 1 ≤ s ∧ s ≤ 12) :
    (kd = 0 ∨ kd = 1 ∨ kd = 2 ∨ kd = 3 ∨ kd = 4 ∨ kd = 5 ∨ (kd ≠ 0 ∧ kd ≠ 1 ∧ kd ≠ 2 ∧ kd ≠ 3 ∧ kd ≠ 4 ∧ kd ≠ 5)) ∧
    ((0 ≤ a ∧ a ≤ s ∧ a ≤ 2 * s ∧ ¬ s < a) ∨ (¬ (0 ≤ a ∧ a ≤ s) ∧ 0 ≤ a ∧ a ≤ 2 * s ∧ s < a ∧ ¬ a ≤ s) ∨ (¬ (0 ≤ a ∧ a ≤ s) ∧ ¬ (0 ≤ a ∧ a ≤ 2 * s))) ∧
    (b = 0 ∨ (b ≠ 0 ∧ 0 ≤ b ∧ b ≤ s) ∨ (b ≠ 0 ∧ ¬ (0 ≤ b ∧ b ≤ s))) := by
  omega

theorem pzClue_eq (k : Nat) {s : Int} (kd a b c : Int) (hs : 1 ≤ s ∧ s ≤ 12) : spec_pzClue.f (k + 3) s kd a b c = some (decide (clueP s kd a b c)) := by
  obtain ⟨e1, e2, e3⟩ := clue_sq hs
  obtain ⟨hk, ha, hb⟩ := clue_cases kd a b hs
  have s0 : 0 ≤ s := by omega
  unfold spec_pzClue.f clueP
  simp only [spec_pzClue.j0, in_eq, Option.bind_some, e1, e2, e3]
  rcases hk with rfl | rfl | rfl | rfl | rfl | rfl | ⟨k0, k1, k2, k3, k4, k5⟩ <;>
  rcases hb with rfl | ⟨b0, b1, b2⟩ | ⟨b0, b1⟩ <;>
  rcases ha with ⟨a1, a2, a3, a4⟩ | ⟨a0, a1, a2, a3, a4⟩ | ⟨a0, a1⟩ <;>
  simp [*] <;> by_cases hc : c = 0 <;> simp [hc]

theorem isClue_eq (k : Nat) {s : Int} (kd a b c : Int) (hs : 1 ≤ s ∧ s ≤ 12) : impl_IsClue.f (k + 3) s kd a b c = some (decide (clueP s kd a b c)) := by
  obtain ⟨e1, e2, e3⟩ := clue_sq hs
  obtain ⟨hk, ha, hb⟩ := clue_cases kd a b hs
  have s0 : 0 ≤ s := by omega
  unfold impl_IsClue.f impl_isSide.f clueP
  simp only [impl_IsClue.j0, impl_IsClue.j1, within_eq, Option.bind_some, e1, e2, e3, hs]
  rcases hk with rfl | rfl | rfl | rfl | rfl | rfl | ⟨k0, k1, k2, k3, k4, k5⟩ <;>
  rcases hb with rfl | ⟨b0, b1, b2⟩ | ⟨b0, b1⟩ <;>
  rcases ha with ⟨a1, a2, a3, a4⟩ | ⟨a0, a1, a2, a3, a4⟩ | ⟨a0, a1⟩ <;>
  simp [*] <;> by_cases hc : c = 0 <;> simp [hc]

theorem isClue_out (k : Nat) {s : Int} (kd a b c : Int) (hs : ¬ (1 ≤ s ∧ s ≤ 12)) : impl_IsClue.f (k + 3) s kd a b c = some false := by
  unfold impl_IsClue.f impl_isSide.f
  simp only [impl_IsClue.j0, within_eq, Option.bind_some]
  rw [if_neg (by simpa using hs), if_pos trivial]

/-- What a clue tells of a peg. -/
def tells (kd a b px py : Int) : Int := if kd = 0 then px else if kd = 1 then py else if kd = 2 then px + py else if kd = 3 then ((a * py - b * px).natAbs : Int) else if kd = 4 then (a - px) * (a - px) + (b - py) * (b - py) else if Int.gcd (a - px) (b - py) < 2 then 1 else 0
theorem pzValue_eq (k : Nat) (hk : 100 < k) (kd : Int) {a b px py : Int} (ha : 0 ≤ a ∧ a ≤ 24) (hb : 0 ≤ b ∧ b ≤ 12) (hx : 0 ≤ px ∧ px ≤ 12) (hy : 0 ≤ py ∧ py ≤ 12) : spec_pzValue.f k kd a b px py = some (tells kd a b px py) := by
  unfold spec_pzValue.f tells
  have q1 := mul_bd 24 24 (x := a) (y := py) (by omega) (by omega)
  have q2 := mul_bd 24 24 (x := b) (y := px) (by omega) (by omega)
  have q3 := mul_bd 24 24 (x := a - px) (y := a - px) (by omega) (by omega)
  have q4 := mul_bd 24 24 (x := b - py) (y := b - py) (by omega) (by omega)
  have et : spec_pgTurn.f 0 0 a b px py = some (a * py - b * px) := by
    have := pgTurn_eq 24 (by omega) (ax := 0) (ay := 0) (bx := a) (by_ := b) (cx := px) (cy := py) (by omega) (by omega) (by omega) (by omega) (by omega) (by omega)
    rw [this]
    unfold tri
    simp
  rw [et, pgStep_eq 24 (by omega) k (by omega) (by omega) (by omega) (by omega) (by omega)]
  simp only [Option.bind_some, spec_bdFar.f]
  rw [l1Abs_eq (by omega), w64 (x := a - px) (by omega) (by omega), w64 (x := b - py) (by omega) (by omega), w64 (x := (a - px) * (a - px)) (by omega) (by omega), w64 (x := (b - py) * (b - py)) (by omega) (by omega), w64 (x := _ + (b - py) * (b - py)) (by omega) (by omega), w64 (x := px + py) (by omega) (by omega)]
  simp only [Option.bind_some]
  have eg : ((Int.gcd (a - px) (b - py) : Nat) : Int) < 2 ↔ Int.gcd (a - px) (b - py) < 2 := by omega
  by_cases g : Int.gcd (a - px) (b - py) < 2
  · simp only [if_pos g, if_pos (eg.2 g)]
    repeat' split
    all_goals first | rfl | done
  · simp only [if_neg g, if_neg (fun h => g (eg.1 h))]
    repeat' split
    all_goals first | rfl | done
theorem pzFits_eq (k : Nat) (hk : 100 < k) (kd : Int) {a b c px py : Int} (ha : 0 ≤ a ∧ a ≤ 24) (hb : 0 ≤ b ∧ b ≤ 12) (hx : 0 ≤ px ∧ px ≤ 12) (hy : 0 ≤ py ∧ py ≤ 12) : spec_pzFits.f k kd a b c px py = some (decide (tells kd a b px py = if kd < 3 then a else c)) := by
  unfold spec_pzFits.f
  rw [pzValue_eq k hk kd ha hb hx hy]
  simp only [Option.bind_some]
  split <;> congr 1
theorem fits_eq (k : Nat) (hk : 100 < k) {kd : Int} (hkd : 0 ≤ kd ∧ kd ≤ 5) {a b c px py : Int} (ha : 0 ≤ a ∧ a ≤ 24) (hb : 0 ≤ b ∧ b ≤ 12) (hx : 0 ≤ px ∧ px ≤ 12) (hy : 0 ≤ py ∧ py ≤ 12) : impl_fits.f k kd a b c px py = some (decide (tells kd a b px py = if kd < 3 then a else c)) := by
  unfold impl_fits.f impl_asHas.f tells
  have q1 := mul_bd 24 24 (x := a) (y := py) (by omega) (by omega)
  have q2 := mul_bd 24 24 (x := b) (y := px) (by omega) (by omega)
  have q3 := mul_bd 24 24 (x := px - a) (y := px - a) (by omega) (by omega)
  have q4 := mul_bd 24 24 (x := py - b) (y := py - b) (by omega) (by omega)
  have e1 : (px - a) * (px - a) = (a - px) * (a - px) := by rw [show px - a = -(a - px) by omega, Int.neg_mul_neg]
  have e2 : (py - b) * (py - b) = (b - py) * (b - py) := by rw [show py - b = -(b - py) by omega, Int.neg_mul_neg]
  have eg : Int.gcd (px - a) (py - b) = Int.gcd (a - px) (b - py) := by
    rw [show px - a = -(a - px) by omega, show py - b = -(b - py) by omega, Int.neg_gcd, Int.gcd_neg]
  rw [steps_eq 24 (by omega) k (by omega) (by omega) (by omega) (by omega) (by omega), eg]
  simp only [impl_cross.f, impl_Peg_less.f, impl_Peg_square.f, Option.bind_some]
  rw [w64 (x := px - a) (by omega) (by omega), w64 (x := py - b) (by omega) (by omega), w64 (x := (px - a) * (px - a)) (by omega) (by omega), w64 (x := (py - b) * (py - b)) (by omega) (by omega), w64 (x := _ + (py - b) * (py - b)) (by omega) (by omega), w64 (x := px + py) (by omega) (by omega), w64 (x := a * py) (by omega) (by omega), w64 (x := b * px) (by omega) (by omega), w64 (x := a * py - b * px) (by omega) (by omega), size_eq (by omega), e1, e2]
  have hk6 : kd = 0 ∨ kd = 1 ∨ kd = 2 ∨ kd = 3 ∨ kd = 4 ∨ kd = 5 := by omega
  have eg2 : ((Int.gcd (a - px) (b - py) : Nat) : Int) < 2 ↔ Int.gcd (a - px) (b - py) < 2 := by omega
  by_cases g : Int.gcd (a - px) (b - py) < 2
  · have g2 := eg2.2 g
    rcases hk6 with rfl | rfl | rfl | rfl | rfl | rfl <;> simp [g, g2] <;> rw [Bool.eq_iff_iff] <;> simp
  · have g2 : ¬ ((Int.gcd (a - px) (b - py) : Nat) : Int) < 2 := fun h => g (eg2.1 h)
    rcases hk6 with rfl | rfl | rfl | rfl | rfl | rfl <;> simp [g, g2] <;> rw [Bool.eq_iff_iff] <;> simp

theorem clue_bounds {s kd a b c : Int} (hs : 1 ≤ s ∧ s ≤ 12) (h : clueP s kd a b c) : (0 ≤ kd ∧ kd ≤ 5) ∧ (0 ≤ a ∧ a ≤ 24) ∧ (0 ≤ b ∧ b ≤ 12) := by
  unfold clueP at h
  omega

theorem pzOn_eq (s x y : Int) : spec_pzOn.f s x y = some (decide ((0 ≤ x ∧ x ≤ s) ∧ (0 ≤ y ∧ y ≤ s))) := by
  unfold spec_pzOn.f
  simp only [in_eq, Option.bind_some]
  by_cases c : 0 ≤ x ∧ x ≤ s
  · simp [c]
  · simp [c]
theorem isHidden_eq {s : Int} (x y : Int) (hs : 1 ≤ s ∧ s ≤ 12) : impl_isHidden.f s x y = some (decide ((0 ≤ x ∧ x ≤ s) ∧ (0 ≤ y ∧ y ≤ s))) := by
  unfold impl_isHidden.f impl_isSide.f impl_isOnBoard.f
  rw [w64 (x := s + 1) (by omega) (by omega), w64 (x := s + 1 - 1) (by omega) (by omega), show s + 1 - 1 = s by omega]
  simp only [within_eq, Option.bind_some]
  by_cases c : 0 ≤ x ∧ x ≤ s
  · simp [c, hs]
  · simp [c, hs]

/-- The one pure statement of the law FnExactDoesFit. -/
def FnExactDoesFit.Pure : Prop :=
  ∀ (a0 : Int) (a1_0 : Int) (a1_1 : Int) (a1_2 : Int) (a1_3 : Int) (a2_0 : Int) (a2_1 : Int), I64 a0 → I64 a1_0 → I64 a1_1 → I64 a1_2 → I64 a1_3 → I64 a2_0 → I64 a2_1 → ∃ k, laws_FnExactDoesFit.f k a0 a1_0 a1_1 a1_2 a1_3 a2_0 a2_1 = some true

theorem FnExactDoesFit : FnExactDoesFit.Pure := by
  intro s kd a b c px py _ _ _ _ _ _ _
  refine ⟨98 + 3, ?_⟩
  unfold laws_FnExactDoesFit.f laws_toClue.f laws_toPeg.f spec_DoesFit.f impl_DoesFit.f spec_pzSide.f
  simp only [Option.bind_some, in_eq]
  by_cases hs : 1 ≤ s ∧ s ≤ 12
  · rw [pzClue_eq 98 kd a b c hs, isClue_eq 98 kd a b c hs, isHidden_eq px py hs, pzOn_eq]
    simp only [Option.bind_some, hs, and_self, decide_true, if_true]
    by_cases h1 : clueP s kd a b c
    · by_cases h2 : (0 ≤ px ∧ px ≤ s) ∧ (0 ≤ py ∧ py ≤ s)
      · obtain ⟨b1, b2, b3⟩ := clue_bounds hs h1
        rw [fits_eq _ (by omega) b1 b2 b3 (by omega) (by omega), pzFits_eq _ (by omega) kd b2 b3 (by omega) (by omega)]
        simp [h1, h2]
      · simp [h1, h2]
    · simp [h1]
  · rw [isClue_out 98 kd a b c hs]
    simp [hs]

end Go.Proofs.Ytlhiificglpgkaa.Pure
