/- The program's FirstSolution returns what the reference's returns, for all arguments. No condition. -/
import Derived.Test.YtlhiificglpgkaaMKx0
import Derived.Test.YtlhiificglpgkaaMKx2
import Derived.Test.YtlhiificglpgkaaMKx3
import Derived.Test.YtlhiificglpgkaaMKx4
import Derived.Test.YtlhiificglpgkaaMKx5
import Derived.Test.YtlhiificglpgkaaMKx6
import Derived.Test.YtlhiificglpgkaaMKx7
import Derived.Test.YtlhiificglpgkaaMKx8
import Derived.Test.YtlhiificglpgkaaMKx9
import Derived.Test.YtlhiificglpgkaaMKx10
import Derived.Test.YtlhiificglpgkaaMKx11
import Derived.Test.YtlhiificglpgkaaMKx12
import Derived.Test.YtlhiificglpgkaaMKx13
import Derived.Test.YtlhiificglpgkaaMKx14
import Derived.Test.YtlhiificglpgkaaMKx20
import Derived.Test.YtlhiificglpgkaaMKx21
import Derived.Test.YtlhiificglpgkaaMKx22
import Derived.Test.YtlhiificglpgkaaV
namespace Go.Proofs.Ytlhiificglpgkaa.Pure
open Go.RowKit Go.Proofs.YtlhiificglpgkaaV Go.Proofs.Ytlhiificglpgkaa.MK Go.Proofs.YtlhiificglpgkaaW.PrintWords Go.Proofs.YtlhiificglpgkaaW.PrintLast Go.Proofs.YtlhiificglpgkaaW.PrintMore

theorem in_eq (a lo hi : Int) : spec_l1In.f a lo hi = some (decide (lo ≤ a ∧ a ≤ hi)) := by
  unfold spec_l1In.f
  by_cases h : lo ≤ a
  · rw [if_pos h]; simp [h]
  · rw [if_neg h]; simp [h]

theorem within_eq (a lo hi : Int) : impl_within.f a lo hi = some (decide (lo ≤ a ∧ a ≤ hi)) := by
  unfold impl_within.f
  by_cases h : lo ≤ a
  · rw [if_pos h]; simp [h]
  · rw [if_neg h]; simp [h]

theorem w64 {x : Int} (h0 : -9223372036854775808 ≤ x) (h1 : x ≤ 9223372036854775807) : wrap64 x = x := by
  unfold wrap64
  omega

theorem mul_bd {x y : Int} (A B : Nat) (hx : -(A : Int) ≤ x ∧ x ≤ A) (hy : -(B : Int) ≤ y ∧ y ≤ B) : -((A * B : Nat) : Int) ≤ x * y ∧ x * y ≤ ((A * B : Nat) : Int) := by
  have h1 : x.natAbs ≤ A := by omega
  have h2 : y.natAbs ≤ B := by omega
  have h3 := Nat.mul_le_mul h1 h2
  rw [← Int.natAbs_mul] at h3
  omega

/-- Twice the area of three points. -/
def tri (ax ay bx by_ cx cy : Int) : Int := (bx - ax) * (cy - ay) - (by_ - ay) * (cx - ax)

theorem pgTurn_eq (M : Nat) (hM : M ≤ 1000000) {ax ay bx by_ cx cy : Int} (h1 : -(M : Int) ≤ ax ∧ ax ≤ M) (h2 : -(M : Int) ≤ ay ∧ ay ≤ M) (h3 : -(M : Int) ≤ bx ∧ bx ≤ M) (h4 : -(M : Int) ≤ by_ ∧ by_ ≤ M) (h5 : -(M : Int) ≤ cx ∧ cx ≤ M) (h6 : -(M : Int) ≤ cy ∧ cy ≤ M) :
    spec_pgTurn.f ax ay bx by_ cx cy = some (tri ax ay bx by_ cx cy) := by
  unfold spec_pgTurn.f tri
  rw [w64 (x := bx - ax) (by omega) (by omega), w64 (x := cy - ay) (by omega) (by omega), w64 (x := by_ - ay) (by omega) (by omega), w64 (x := cx - ax) (by omega) (by omega)]
  have q1 := mul_bd 2000000 2000000 (x := bx - ax) (y := cy - ay) (by omega) (by omega)
  have q2 := mul_bd 2000000 2000000 (x := by_ - ay) (y := cx - ax) (by omega) (by omega)
  rw [w64 (x := (bx - ax) * (cy - ay)) (by omega) (by omega), w64 (x := (by_ - ay) * (cx - ax)) (by omega) (by omega), w64 (by omega) (by omega)]

theorem size_eq {x : Int} (h : -9223372036854775807 ≤ x ∧ x ≤ 9223372036854775807) : impl_size.f x = some (x.natAbs : Int) := by
  unfold impl_size.f mx
  rw [w64 (x := -x) (by omega) (by omega)]
  split
  · congr 1; omega
  · congr 1; omega

theorem l1Abs_eq {x : Int} (h : -9223372036854775807 ≤ x ∧ x ≤ 9223372036854775807) : spec_l1Abs.f x = some (x.natAbs : Int) := by
  unfold spec_l1Abs.f spec_l1Most.f
  rw [w64 (x := -x) (by omega) (by omega)]
  split
  · show some x = _
    congr 1; omega
  · show some (-x) = _
    congr 1; omega

theorem gcd_step (a b : Int) (hb : b ≠ 0) : Int.gcd b (Int.tmod a b) = Int.gcd a b ∧ (Int.tmod a b).natAbs < b.natAbs := by
  have h1 : (Int.tmod a b).natAbs = a.natAbs % b.natAbs := Int.natAbs_tmod a b
  have hb' : 0 < b.natAbs := by omega
  refine ⟨?_, by rw [h1]; exact Nat.mod_lt _ hb'⟩
  unfold Int.gcd
  rw [h1, Nat.gcd_comm a.natAbs b.natAbs, Nat.gcd_rec b.natAbs a.natAbs, Nat.gcd_comm]

theorem divisor_loop (n : Nat) : ∀ (k : Nat) (a b : Int), b.natAbs ≤ n → n < k → a.natAbs ≤ 9223372036854775807 → b.natAbs ≤ 9223372036854775807 → impl_divisor.l0 k a b = some (Int.gcd a b : Int) := by
  induction n with
  | zero =>
    intro k a b hb hk ha _
    obtain ⟨k, rfl⟩ : ∃ m, k = m + 1 := ⟨k - 1, by omega⟩
    have h0 : b = 0 := by omega
    subst h0
    rw [impl_divisor.l0, if_pos rfl, size_eq (by omega)]
    simp [Int.gcd]
  | succ n ih =>
    intro k a b hb hk ha hb2
    obtain ⟨k, rfl⟩ : ∃ m, k = m + 1 := ⟨k - 1, by omega⟩
    by_cases h0 : b = 0
    · exact ih (k + 1) a b (by omega) (by omega) ha hb2
    · obtain ⟨e, hlt⟩ := gcd_step a b h0
      simp only [impl_divisor.l0]
      rw [if_neg h0, ih k b (Int.tmod a b) (by omega) (by omega) hb2 (by omega), e]

theorem divisor_eq (k : Nat) {a b : Int} (hk : b.natAbs < k) (ha : a.natAbs ≤ 9223372036854775807) (hb : b.natAbs ≤ 9223372036854775807) : impl_divisor.f k a b = some (Int.gcd a b : Int) :=
  divisor_loop b.natAbs k a b (Nat.le_refl _) hk ha hb

theorem common_loop (n : Nat) : ∀ (k : Nat) (a b : Int), 0 ≤ a → 0 ≤ b → b.natAbs ≤ n → n < k → spec_pgCommon.l0 k a b = some (Int.gcd a b : Int) := by
  induction n with
  | zero =>
    intro k a b ha _ hb hk
    obtain ⟨k, rfl⟩ : ∃ m, k = m + 1 := ⟨k - 1, by omega⟩
    have h0 : b = 0 := by omega
    subst h0
    simp only [spec_pgCommon.l0]
    rw [if_neg (by omega)]
    simp only [Int.gcd, Int.natAbs_zero, Nat.gcd_zero_right]
    congr 1; omega
  | succ n ih =>
    intro k a b ha hb0 hb hk
    obtain ⟨k, rfl⟩ : ∃ m, k = m + 1 := ⟨k - 1, by omega⟩
    by_cases h0 : b = 0
    · exact ih (k + 1) a b ha hb0 (by omega) (by omega)
    · obtain ⟨e, hlt⟩ := gcd_step a b h0
      simp only [spec_pgCommon.l0]
      rw [if_pos (by omega), if_neg h0, ih k b (Int.tmod a b) hb0 (Int.tmod_nonneg _ ha) (by omega) (by omega), e]

theorem common_eq (k : Nat) {a b : Int} (hk : b.natAbs < k) (ha : a.natAbs ≤ 9223372036854775807) (hb : b.natAbs ≤ 9223372036854775807) : spec_pgCommon.f k a b = some (Int.gcd a b : Int) := by
  unfold spec_pgCommon.f
  rw [l1Abs_eq (x := a) (by omega), l1Abs_eq (x := b) (by omega)]
  simp only [Option.bind_some]
  rw [common_loop b.natAbs k _ _ (by omega) (by omega) (by omega) hk]
  simp [Int.gcd]

theorem steps_eq (M : Nat) (hM : M ≤ 1000000) (k : Nat) {ax ay bx by_ : Int} (h1 : -(M : Int) ≤ ax ∧ ax ≤ M) (h2 : -(M : Int) ≤ ay ∧ ay ≤ M) (h3 : -(M : Int) ≤ bx ∧ bx ≤ M) (h4 : -(M : Int) ≤ by_ ∧ by_ ≤ M) (hk : 2 * M < k) :
    impl_steps.f k ax ay bx by_ = some (Int.gcd (ax - bx) (ay - by_) : Int) := by
  unfold impl_steps.f
  rw [w64 (x := ax - bx) (by omega) (by omega), w64 (x := ay - by_) (by omega) (by omega), divisor_eq k (by omega) (by omega) (by omega)]
  rfl

theorem pgStep_eq (M : Nat) (hM : M ≤ 1000000) (k : Nat) {ax ay bx by_ : Int} (h1 : -(M : Int) ≤ ax ∧ ax ≤ M) (h2 : -(M : Int) ≤ ay ∧ ay ≤ M) (h3 : -(M : Int) ≤ bx ∧ bx ≤ M) (h4 : -(M : Int) ≤ by_ ∧ by_ ≤ M) (hk : 2 * M < k) :
    spec_pgStep.f k ax ay bx by_ = some (Int.gcd (ax - bx) (ay - by_) : Int) := by
  unfold spec_pgStep.f
  rw [w64 (x := ax - bx) (by omega) (by omega), w64 (x := ay - by_) (by omega) (by omega), common_eq k (by omega) (by omega) (by omega)]
  rfl

/-- A clue of a board. -/
def clueP (s kd a b c : Int) : Prop := ((kd = 0 ∨ kd = 1) ∧ (0 ≤ a ∧ a ≤ s) ∧ b = 0 ∧ c = 0) ∨ (kd = 2 ∧ (0 ≤ a ∧ a ≤ 2 * s) ∧ b = 0 ∧ c = 0) ∨ ((kd = 3 ∨ kd = 4 ∨ kd = 5) ∧ (0 ≤ a ∧ a ≤ s) ∧ (0 ≤ b ∧ b ≤ s) ∧ (0 ≤ c ∧ c ≤ (if kd = 3 then s * s else if kd = 4 then 2 * s * s else 1)))
instance (s kd a b c : Int) : Decidable (clueP s kd a b c) := by unfold clueP; infer_instance

theorem clue_sq {s : Int} (hs : 1 ≤ s ∧ s ≤ 12) : wrap64 (2 * s) = 2 * s ∧ wrap64 (s * s) = s * s ∧ wrap64 (2 * s * s) = 2 * s * s := by
  have hq := mul_bd 12 12 (x := s) (y := s) (by omega) (by omega)
  refine ⟨w64 (by omega) (by omega), w64 (by omega) (by omega), ?_⟩
  rw [Int.mul_assoc]
  exact w64 (by omega) (by omega)

theorem clue_cases {s : Int} (kd a b : Int) (hs : 1 ≤ s ∧ s ≤ 12) :
    (kd = 0 ∨ kd = 1 ∨ kd = 2 ∨ kd = 3 ∨ kd = 4 ∨ kd = 5 ∨ (kd ≠ 0 ∧ kd ≠ 1 ∧ kd ≠ 2 ∧ kd ≠ 3 ∧ kd ≠ 4 ∧ kd ≠ 5)) ∧
    ((0 ≤ a ∧ a ≤ s ∧ a ≤ 2 * s ∧ ¬ s < a) ∨ (¬ (0 ≤ a ∧ a ≤ s) ∧ 0 ≤ a ∧ a ≤ 2 * s ∧ s < a ∧ ¬ a ≤ s) ∨ (¬ (0 ≤ a ∧ a ≤ s) ∧ ¬ (0 ≤ a ∧ a ≤ 2 * s))) ∧
    (b = 0 ∨ (b ≠ 0 ∧ 0 ≤ b ∧ b ≤ s) ∨ (b ≠ 0 ∧ ¬ (0 ≤ b ∧ b ≤ s))) := by
  omega

theorem pzClue_eq (k : Nat) {s : Int} (kd a b c : Int) (hs : 1 ≤ s ∧ s ≤ 12) : spec_pzClue.f (k + 3) s kd a b c = some (decide (clueP s kd a b c)) := by
  obtain ⟨e1, e2, e3⟩ := clue_sq hs
  obtain ⟨hk, ha, hb⟩ := clue_cases kd a b hs
  have s0 : 0 ≤ s := by omega
  unfold spec_pzClue.f clueP
  simp only [spec_pzClue.j0, in_eq, Option.bind_some, e1, e2, e3]
  rcases hk with rfl | rfl | rfl | rfl | rfl | rfl | ⟨k0, k1, k2, k3, k4, k5⟩ <;>
  rcases hb with rfl | ⟨b0, b1, b2⟩ | ⟨b0, b1⟩ <;>
  rcases ha with ⟨a1, a2, a3, a4⟩ | ⟨a0, a1, a2, a3, a4⟩ | ⟨a0, a1⟩ <;>
  simp [*] <;> by_cases hc : c = 0 <;> simp [hc]

theorem isClue_eq (k : Nat) {s : Int} (kd a b c : Int) (hs : 1 ≤ s ∧ s ≤ 12) : impl_IsClue.f (k + 3) s kd a b c = some (decide (clueP s kd a b c)) := by
  obtain ⟨e1, e2, e3⟩ := clue_sq hs
  obtain ⟨hk, ha, hb⟩ := clue_cases kd a b hs
  have s0 : 0 ≤ s := by omega
  unfold impl_IsClue.f impl_isSide.f clueP
  simp only [impl_IsClue.j0, impl_IsClue.j1, within_eq, Option.bind_some, e1, e2, e3, hs]
  rcases hk with rfl | rfl | rfl | rfl | rfl | rfl | ⟨k0, k1, k2, k3, k4, k5⟩ <;>
  rcases hb with rfl | ⟨b0, b1, b2⟩ | ⟨b0, b1⟩ <;>
  rcases ha with ⟨a1, a2, a3, a4⟩ | ⟨a0, a1, a2, a3, a4⟩ | ⟨a0, a1⟩ <;>
  simp [*] <;> by_cases hc : c = 0 <;> simp [hc]

/-- What a clue tells of a peg. -/
def tells (kd a b px py : Int) : Int := if kd = 0 then px else if kd = 1 then py else if kd = 2 then px + py else if kd = 3 then ((a * py - b * px).natAbs : Int) else if kd = 4 then (a - px) * (a - px) + (b - py) * (b - py) else if Int.gcd (a - px) (b - py) < 2 then 1 else 0
theorem pzValue_eq (k : Nat) (hk : 100 < k) (kd : Int) {a b px py : Int} (ha : 0 ≤ a ∧ a ≤ 24) (hb : 0 ≤ b ∧ b ≤ 12) (hx : 0 ≤ px ∧ px ≤ 12) (hy : 0 ≤ py ∧ py ≤ 12) : spec_pzValue.f k kd a b px py = some (tells kd a b px py) := by
  unfold spec_pzValue.f tells
  have q1 := mul_bd 24 24 (x := a) (y := py) (by omega) (by omega)
  have q2 := mul_bd 24 24 (x := b) (y := px) (by omega) (by omega)
  have q3 := mul_bd 24 24 (x := a - px) (y := a - px) (by omega) (by omega)
  have q4 := mul_bd 24 24 (x := b - py) (y := b - py) (by omega) (by omega)
  have et : spec_pgTurn.f 0 0 a b px py = some (a * py - b * px) := by
    have := pgTurn_eq 24 (by omega) (ax := 0) (ay := 0) (bx := a) (by_ := b) (cx := px) (cy := py) (by omega) (by omega) (by omega) (by omega) (by omega) (by omega)
    rw [this]
    unfold tri
    simp
  rw [et, pgStep_eq 24 (by omega) k (by omega) (by omega) (by omega) (by omega) (by omega)]
  simp only [Option.bind_some, spec_bdFar.f]
  rw [l1Abs_eq (by omega), w64 (x := a - px) (by omega) (by omega), w64 (x := b - py) (by omega) (by omega), w64 (x := (a - px) * (a - px)) (by omega) (by omega), w64 (x := (b - py) * (b - py)) (by omega) (by omega), w64 (x := _ + (b - py) * (b - py)) (by omega) (by omega), w64 (x := px + py) (by omega) (by omega)]
  simp only [Option.bind_some]
  have eg : ((Int.gcd (a - px) (b - py) : Nat) : Int) < 2 ↔ Int.gcd (a - px) (b - py) < 2 := by omega
  by_cases g : Int.gcd (a - px) (b - py) < 2
  · simp only [if_pos g, if_pos (eg.2 g)]
    repeat' split
    all_goals first | rfl | done
  · simp only [if_neg g, if_neg (fun h => g (eg.1 h))]
    repeat' split
    all_goals first | rfl | done

theorem pzFits_eq (k : Nat) (hk : 100 < k) (kd : Int) {a b c px py : Int} (ha : 0 ≤ a ∧ a ≤ 24) (hb : 0 ≤ b ∧ b ≤ 12) (hx : 0 ≤ px ∧ px ≤ 12) (hy : 0 ≤ py ∧ py ≤ 12) : spec_pzFits.f k kd a b c px py = some (decide (tells kd a b px py = if kd < 3 then a else c)) := by
  unfold spec_pzFits.f
  rw [pzValue_eq k hk kd ha hb hx hy]
  simp only [Option.bind_some]
  split <;> congr 1
theorem fits_eq (k : Nat) (hk : 100 < k) {kd : Int} (hkd : 0 ≤ kd ∧ kd ≤ 5) {a b c px py : Int} (ha : 0 ≤ a ∧ a ≤ 24) (hb : 0 ≤ b ∧ b ≤ 12) (hx : 0 ≤ px ∧ px ≤ 12) (hy : 0 ≤ py ∧ py ≤ 12) : impl_fits.f k kd a b c px py = some (decide (tells kd a b px py = if kd < 3 then a else c)) := by
  unfold impl_fits.f impl_asHas.f tells
  have q1 := mul_bd 24 24 (x := a) (y := py) (by omega) (by omega)
  have q2 := mul_bd 24 24 (x := b) (y := px) (by omega) (by omega)
  have q3 := mul_bd 24 24 (x := px - a) (y := px - a) (by omega) (by omega)
  have q4 := mul_bd 24 24 (x := py - b) (y := py - b) (by omega) (by omega)
  have e1 : (px - a) * (px - a) = (a - px) * (a - px) := by rw [show px - a = -(a - px) by omega, Int.neg_mul_neg]
  have e2 : (py - b) * (py - b) = (b - py) * (b - py) := by rw [show py - b = -(b - py) by omega, Int.neg_mul_neg]
  have eg : Int.gcd (px - a) (py - b) = Int.gcd (a - px) (b - py) := by
    rw [show px - a = -(a - px) by omega, show py - b = -(b - py) by omega, Int.neg_gcd, Int.gcd_neg]
  rw [steps_eq 24 (by omega) k (by omega) (by omega) (by omega) (by omega) (by omega), eg]
  simp only [impl_cross.f, impl_Peg_less.f, impl_Peg_square.f, Option.bind_some]
  rw [w64 (x := px - a) (by omega) (by omega), w64 (x := py - b) (by omega) (by omega), w64 (x := (px - a) * (px - a)) (by omega) (by omega), w64 (x := (py - b) * (py - b)) (by omega) (by omega), w64 (x := _ + (py - b) * (py - b)) (by omega) (by omega), w64 (x := px + py) (by omega) (by omega), w64 (x := a * py) (by omega) (by omega), w64 (x := b * px) (by omega) (by omega), w64 (x := a * py - b * px) (by omega) (by omega), size_eq (by omega), e1, e2]
  have hk6 : kd = 0 ∨ kd = 1 ∨ kd = 2 ∨ kd = 3 ∨ kd = 4 ∨ kd = 5 := by omega
  have eg2 : ((Int.gcd (a - px) (b - py) : Nat) : Int) < 2 ↔ Int.gcd (a - px) (b - py) < 2 := by omega
  by_cases g : Int.gcd (a - px) (b - py) < 2
  · have g2 := eg2.2 g
    rcases hk6 with rfl | rfl | rfl | rfl | rfl | rfl <;> simp [g, g2] <;> rw [Bool.eq_iff_iff] <;> simp
  · have g2 : ¬ ((Int.gcd (a - px) (b - py) : Nat) : Int) < 2 := fun h => g (eg2.1 h)
    rcases hk6 with rfl | rfl | rfl | rfl | rfl | rfl <;> simp [g, g2] <;> rw [Bool.eq_iff_iff] <;> simp

theorem clue_bounds {s kd a b c : Int} (hs : 1 ≤ s ∧ s ≤ 12) (h : clueP s kd a b c) : (0 ≤ kd ∧ kd ≤ 5) ∧ (0 ≤ a ∧ a ≤ 24) ∧ (0 ≤ b ∧ b ≤ 12) := by
  unfold clueP at h
  omega

/-- The pegs of a board from column x on, e columns. -/
def rowsFrom (h x e : Nat) : List S41 := (List.range' x e).flatMap fun (x : Nat) => (List.range' 0 h).map fun (y : Nat) => (⟨(x : Int), (y : Int)⟩ : S41)
def colFrom (x y d : Nat) : List S41 := (List.range' y d).map fun (y : Nat) => (⟨(x : Int), (y : Int)⟩ : S41)
theorem colFrom_succ (x y d : Nat) : colFrom x y (d + 1) = (⟨(x : Int), (y : Int)⟩ : S41) :: colFrom x (y + 1) d := by
  simp [colFrom, List.range'_succ]
theorem rowsFrom_succ (h x e : Nat) : rowsFrom h x (e + 1) = colFrom x 0 h ++ rowsFrom h (x + 1) e := by
  simp [rowsFrom, colFrom, List.range'_succ]
theorem rowsFrom_length (h x e : Nat) : (rowsFrom h x e).length = e * h := by
  induction e generalizing x with
  | zero => simp [rowsFrom]
  | succ e ih => rw [rowsFrom_succ, List.length_append, ih, Nat.succ_mul]; simp [colFrom]; omega

theorem board_in (w h : Nat) (hh : h ≤ 100) (x : Nat) (K0 : Nat) (R : List S41) (B : Nat) (hB : B ≤ 100000)
    (hc : ∀ k acc, K0 ≤ k → acc.length ≤ B → impl_board.l0 k (h : Int) acc (w : Int) (wrap64 ((x : Int) + 1)) = some (acc ++ R)) (d : Nat) : ∀ (k y : Nat) (acc : List S41), y + d = h → K0 + d + 1 ≤ k → acc.length + d ≤ B →
    impl_board.l1 k (h : Int) acc (x : Int) (w : Int) (x : Int) (h : Int) (y : Int) = some (acc ++ colFrom x y d ++ R) := by
  induction d with
  | zero =>
    intro k y acc hy hk hl
    obtain ⟨k, rfl⟩ : ∃ m, k = m + 1 := ⟨k - 1, by omega⟩
    simp only [impl_board.l1]
    rw [if_neg (by omega), hc k acc (by omega) (by omega)]
    simp [colFrom]
  | succ d ih =>
    intro k y acc hy hk hl
    obtain ⟨k, rfl⟩ : ∃ m, k = m + 1 := ⟨k - 1, by omega⟩
    simp only [impl_board.l1]
    rw [if_pos (by omega), if_pos (by omega), w64 (by omega) (by omega)]
    have := ih k (y + 1) (acc ++ [⟨(x : Int), (y : Int)⟩]) (by omega) (by omega) (by simp; omega)
    rw [show ((y : Int) + 1) = ((y + 1 : Nat) : Int) by omega, this, colFrom_succ]
    simp
theorem board_loop (w h : Nat) (hw : w ≤ 100) (hh : h ≤ 100) (e : Nat) : ∀ (k x : Nat) (acc : List S41), x + e = w → e * (h + 2) + 1 ≤ k → acc.length + e * h ≤ 20000 →
    impl_board.l0 k (h : Int) acc (w : Int) (x : Int) = some (acc ++ rowsFrom h x e) := by
  induction e with
  | zero =>
    intro k x acc hx hk hl
    obtain ⟨k, rfl⟩ : ∃ m, k = m + 1 := ⟨k - 1, by omega⟩
    simp only [impl_board.l0]
    rw [if_neg (by omega)]
    simp [rowsFrom]
  | succ e ih =>
    intro k x acc hx hk hl
    obtain ⟨k, rfl⟩ : ∃ m, k = m + 1 := ⟨k - 1, by omega⟩
    rw [Nat.succ_mul] at hk hl
    simp only [impl_board.l0]
    rw [if_pos (by omega)]
    have := board_in w h hh x (e * (h + 2) + 1) (rowsFrom h (x + 1) e) (acc.length + h) (by omega) (fun k' acc' hk' hl' => by
      rw [w64 (by omega) (by omega)]
      exact ih k' (x + 1) acc' (by omega) hk' (by omega)) h k 0 acc (by omega) (by omega) (by omega)
    rw [show ((0 : Nat) : Int) = 0 from rfl] at this
    rw [this, rowsFrom_succ, List.append_assoc]
theorem board_eq (k w h : Nat) (hw : w ≤ 100) (hh : h ≤ 100) (hk : 10300 ≤ k) : impl_board.f k (w : Int) (h : Int) = some (rowsFrom h 0 w) := by
  unfold impl_board.f
  have h1 : w * (h + 2) ≤ 100 * 102 := Nat.mul_le_mul hw (by omega)
  have h2 : w * h ≤ 100 * 100 := Nat.mul_le_mul hw hh
  have := board_loop w h hw hh w k 0 [] (by omega) (by omega) (by simp; omega)
  rw [show ((0 : Nat) : Int) = 0 from rfl] at this
  rw [this]
  simp

theorem rows_bound (h x e M : Nat) (hM : x + e ≤ M) (hh : h ≤ M) : ∀ p ∈ rowsFrom h x e, (0 ≤ p.f0 ∧ p.f0 < M) ∧ (0 ≤ p.f1 ∧ p.f1 < M) := by
  intro p hp
  unfold rowsFrom at hp
  rw [List.mem_flatMap] at hp
  obtain ⟨a, ha, hp⟩ := hp
  rw [List.mem_map] at hp
  obtain ⟨b, hb, rfl⟩ := hp
  rw [List.mem_range'_1] at ha hb
  refine ⟨⟨?_, ?_⟩, ⟨?_, ?_⟩⟩ <;> simp <;> omega

theorem rdPegNat (l : List S41) (i : Nat) (h : i < l.length) : rd_T41 l (i : Int) = l[i] := by
  unfold rd_T41
  simp [List.getD_eq_getElem?_getD, List.getElem?_eq_getElem h]

def convClue (p : S34) : S39 := ⟨p.f0, p.f1, p.f2, p.f3⟩

theorem toClueS_loop (l : List S34) (hl : l.length ≤ 1048576) (d : Nat) : ∀ (k i : Nat) (x : List S39), i + d = l.length → d < k → x.length = l.length → x.take i = (l.take i).map convClue →
    laws_toClueS.l0 k l x (i : Int) = some (l.map convClue) := by
  induction d with
  | zero =>
    intro k i x hi hk hx hp
    obtain ⟨k, rfl⟩ : ∃ m, k = m + 1 := ⟨k - 1, by omega⟩
    simp only [laws_toClueS.l0]
    rw [if_neg (by omega)]
    rw [List.take_of_length_le (by omega), List.take_of_length_le (by omega)] at hp
    rw [hp]
  | succ d ih =>
    intro k i x hi hk hx hp
    obtain ⟨k, rfl⟩ : ∃ m, k = m + 1 := ⟨k - 1, by omega⟩
    have hlt : i < l.length := by omega
    have hr : rd_T34 l (i : Int) = l[i] := by
      unfold rd_T34
      simp [List.getD_eq_getElem?_getD, List.getElem?_eq_getElem hlt]
    simp only [laws_toClueS.l0, laws_toClue.f]
    rw [if_pos (by omega), if_pos (by omega), hr]
    simp only [Option.bind_some]
    rw [if_pos (by omega), w64 (by omega) (by omega)]
    refine ih k (i + 1) _ (by omega) (by omega) (by simpa using hx) ?_
    rw [Int.toNat_natCast, List.take_set, List.take_add_one, List.take_add_one, hp, List.getElem?_eq_getElem (by omega), List.getElem?_eq_getElem hlt]
    simp only [Option.toList_some, List.map_append, List.map_cons, List.map_nil]
    rw [List.set_append_right _ _ (by simp; omega)]
    simp [Nat.min_eq_left (Nat.le_of_lt hlt), convClue]
theorem toPuzzle_eq (k : Nat) (s : Int) (l : List S34) (hl : l.length ≤ 1048576) (hk : l.length < k) : laws_toPuzzle.f k s l = some (s, l.map convClue) := by
  unfold laws_toPuzzle.f laws_toClueS.f
  have h := toClueS_loop l hl l.length k 0 (List.replicate ((l.length : Int) : Int).toNat z39) (by omega) hk (by simp) (by simp)
  rw [show ((0 : Nat) : Int) = 0 from rfl] at h
  rw [if_pos (by omega), if_pos (by omega), h]
  rfl

theorem rdClueNat (l : List S39) (i : Nat) (h : i < l.length) : rd_T39 l (i : Int) = l[i] := by
  unfold rd_T39
  simp [List.getD_eq_getElem?_getD, List.getElem?_eq_getElem h]
theorem eqClueS_loop (l : List S39) (hl : l.length ≤ 1048576) (d : Nat) : ∀ (k i : Nat), i + d = l.length → d < k → laws_eqClueS.l0 k l l (i : Int) = some true := by
  induction d with
  | zero =>
    intro k i hi hk
    obtain ⟨k, rfl⟩ : ∃ m, k = m + 1 := ⟨k - 1, by omega⟩
    simp only [laws_eqClueS.l0]
    rw [if_neg (by omega)]
  | succ d ih =>
    intro k i hi hk
    obtain ⟨k, rfl⟩ : ∃ m, k = m + 1 := ⟨k - 1, by omega⟩
    simp only [laws_eqClueS.l0]
    rw [if_pos (by omega), if_pos (by omega), if_pos (by omega)]
    have e : ∀ a b c d : Int, laws_eqClue.f a b c d a b c d = some true := fun a b c d => by simp [laws_eqClue.f]
    rw [e, w64 (by omega) (by omega)]
    exact ih k (i + 1) (by omega) (by omega)
theorem eqPuzzle_self (k : Nat) (s : Int) (l : List S39) (hl : l.length ≤ 1048576) (hk : l.length < k) : laws_eqPuzzle.f k s l s l = some true := by
  unfold laws_eqPuzzle.f laws_eqClueS.f
  rw [if_pos rfl, if_pos rfl]
  have := eqClueS_loop l hl l.length k 0 (by omega) hk
  rw [show ((0 : Nat) : Int) = 0 from rfl] at this
  rw [this, Option.bind_some, if_pos rfl]

theorem szPuzzle_eq (s : Int) (l : List S34) (hl : l.length ≤ maxLen) : laws_szPuzzle.f s l 1048576 = some (if 1048576 < l.length then -1 else 1048576 - (l.length : Int)) := by
  unfold maxLen at hl
  unfold laws_szPuzzle.f laws_szClueS.f
  rw [w64 (by omega) (by omega)]
  by_cases c : 1048576 < l.length
  · rw [if_pos (by omega), if_pos c, Option.bind_some, if_pos (by decide)]
  · rw [if_neg (by omega), if_neg c, Option.bind_some, if_neg (by omega)]

/-- A puzzle. -/
def clueB (s : Int) (c : S39) : Bool := decide (clueP s c.f0 c.f1 c.f2 c.f3)
def puzB (s : Int) (l : List S39) : Bool := decide (1 ≤ s ∧ s ≤ 12) && (decide (l.length ≤ 6) && l.all (clueB s))

theorem pzGood_loop (s : Int) (hs : 1 ≤ s ∧ s ≤ 12) (l l' : List S39) (hl : l.length ≤ 6) (d : Nat) : ∀ (k i : Nat), i + d = l.length → d + 3 < k →
    spec_pzGood.l0 k l (l.length : Int) (i : Int) s l' = some ((l.drop i).all (clueB s)) := by
  induction d with
  | zero =>
    intro k i hi hk
    obtain ⟨k, rfl⟩ : ∃ m, k = m + 1 := ⟨k - 1, by omega⟩
    simp only [spec_pzGood.l0]
    rw [if_neg (by omega), List.drop_of_length_le (by omega)]
    rfl
  | succ d ih =>
    intro k i hi hk
    obtain ⟨k, rfl⟩ : ∃ m, k = m + 4 := ⟨k - 4, by omega⟩
    have hlt : i < l.length := by omega
    simp only [spec_pzGood.l0]
    rw [if_pos (by omega), if_pos (by omega), if_pos (by omega), rdClueNat l i hlt, pzClue_eq k _ _ _ _ hs, Option.bind_some, List.drop_eq_getElem_cons hlt, List.all_cons]
    have hb : clueB s l[i] = decide (clueP s l[i].f0 l[i].f1 l[i].f2 l[i].f3) := rfl
    rw [← hb]
    by_cases c : clueB s l[i] = true
    · rw [if_pos c, c, Bool.true_and, w64 (by omega) (by omega)]
      exact ih (k + 3) (i + 1) (by omega) (by omega)
    · rw [if_neg c, Bool.eq_false_iff.mpr c]
      rfl
theorem pzSide_eq (s : Int) : spec_pzSide.f s = some (decide (1 ≤ s ∧ s ≤ 12)) := by
  unfold spec_pzSide.f
  rw [in_eq, Option.bind_some]
theorem pzGood_eq (k : Nat) (hk : 100 ≤ k) (s : Int) (l : List S39) : spec_pzGood.f k s l = some (puzB s l) := by
  obtain ⟨k, rfl⟩ : ∃ m, k = m + 1 := ⟨k - 1, by omega⟩
  unfold spec_pzGood.f puzB
  rw [pzSide_eq, Option.bind_some]
  simp only [spec_pzGood.j0]
  by_cases c : 1 ≤ s ∧ s ≤ 12
  · rw [if_pos (by rw [decide_eq_true_eq]; exact c), decide_eq_true c, Bool.true_and]
    by_cases c2 : l.length ≤ 6
    · rw [if_neg (by rw [decide_eq_true_eq]; omega), decide_eq_true c2, Bool.true_and]
      have := pzGood_loop s c l l c2 l.length k 0 (by omega) (by omega)
      simpa using this
    · rw [if_pos (by rw [decide_eq_true_eq]; omega), decide_eq_false c2]
      rfl
  · rw [if_neg (by rw [decide_eq_true_eq]; exact c), if_pos trivial, decide_eq_false c]
    rfl

theorem indexClue_loop (s : Int) (hs : 1 ≤ s ∧ s ≤ 12) (l l' : List S39) (hl : l.length ≤ 6) (d : Nat) : ∀ (k i : Nat), i + d = l.length → d + 3 < k →
    ∃ r, slices_IndexFunc_impl_Clue_impl_Clue.l0 k l (l.length : Int) (i : Int) s l' = some r ∧ decide (r ≥ 0) = !((l.drop i).all (clueB s)) := by
  induction d with
  | zero =>
    intro k i hi hk
    obtain ⟨k, rfl⟩ : ∃ m, k = m + 1 := ⟨k - 1, by omega⟩
    refine ⟨-1, ?_, ?_⟩
    · simp only [slices_IndexFunc_impl_Clue_impl_Clue.l0]
      rw [if_neg (by omega)]
    · rw [List.drop_of_length_le (by omega)]
      rfl
  | succ d ih =>
    intro k i hi hk
    obtain ⟨k, rfl⟩ : ∃ m, k = m + 4 := ⟨k - 4, by omega⟩
    have hlt : i < l.length := by omega
    simp only [slices_IndexFunc_impl_Clue_impl_Clue.l0, impl_IsPuzzle_1.f]
    rw [if_pos (by omega), if_pos (by omega), if_pos (by omega), rdClueNat l i hlt, isClue_eq k _ _ _ _ hs, Option.bind_some, Option.bind_some, List.drop_eq_getElem_cons hlt, List.all_cons]
    have hb : clueB s l[i] = decide (clueP s l[i].f0 l[i].f1 l[i].f2 l[i].f3) := rfl
    rw [← hb]
    by_cases c : clueB s l[i] = true
    · obtain ⟨r, h1, h2⟩ := ih (k + 3) (i + 1) (by omega) (by omega)
      refine ⟨r, ?_, ?_⟩
      · rw [c, if_neg (by decide), w64 (by omega) (by omega)]
        exact h1
      · rw [h2, c, Bool.true_and]
    · refine ⟨(i : Int), ?_, ?_⟩
      · rw [Bool.eq_false_iff.mpr c, if_pos (by decide)]
      · rw [Bool.eq_false_iff.mpr c, Bool.false_and, decide_eq_true_eq.mpr (by omega)]
        rfl
theorem isPuzzle_eq (k : Nat) (hk : 100 ≤ k) (s : Int) (l : List S39) : impl_IsPuzzle.f k s l = some (puzB s l) := by
  unfold impl_IsPuzzle.f puzB impl_isSide.f slices_ContainsFunc_impl_Clue_impl_Clue.f slices_IndexFunc_impl_Clue_impl_Clue.f
  rw [within_eq, Option.bind_some, Option.bind_some]
  by_cases c : 1 ≤ s ∧ s ≤ 12
  · rw [if_pos (by rw [decide_eq_true_eq]; exact c), decide_eq_true c, Bool.true_and]
    by_cases c2 : l.length ≤ 6
    · obtain ⟨r, h1, h2⟩ := indexClue_loop s c l l c2 l.length k 0 (by omega) (by omega)
      rw [show ((0 : Nat) : Int) = 0 from rfl] at h1
      rw [if_pos (by omega), h1, Option.bind_some, Option.bind_some, h2, decide_eq_true c2, Bool.true_and, Bool.not_not, List.drop_zero]
    · rw [if_neg (by omega), decide_eq_false c2]
      rfl
  · rw [if_neg (by rw [decide_eq_true_eq]; exact c), decide_eq_false c]
    rfl

/-- A peg fits a clue. -/
def fitB (c : S39) (p : S41) : Bool := decide (tells c.f0 c.f1 c.f2 p.f0 p.f1 = if c.f0 < 3 then c.f1 else c.f3)
/-- A peg fits all clues. -/
def fitAll (cs : List S39) (p : S41) : Bool := cs.all fun c => fitB c p
/-- Clues and pegs with small numbers. -/
def okClue (c : S39) : Prop := (0 ≤ c.f0 ∧ c.f0 ≤ 5) ∧ (0 ≤ c.f1 ∧ c.f1 ≤ 24) ∧ (0 ≤ c.f2 ∧ c.f2 ≤ 12)
def okPeg (p : S41) : Prop := (0 ≤ p.f0 ∧ p.f0 ≤ 12) ∧ (0 ≤ p.f1 ∧ p.f1 ≤ 12)
theorem okClue_of {s : Int} (hs : 1 ≤ s ∧ s ≤ 12) {c : S39} (h : clueB s c = true) : okClue c := by
  unfold clueB at h
  rw [decide_eq_true_eq] at h
  exact clue_bounds hs h

theorem pzAll_l2 (cs : List S39) (hn : cs.length ≤ 6) (hcs : ∀ c ∈ cs, okClue c) (s x y : Int) (acc : List S41) (hx : 0 ≤ x ∧ x ≤ 12) (hy : 0 ≤ y ∧ y ≤ 12) (hacc : acc.length ≤ 20000) (K1 : Nat) (hK1 : 100 < K1) (R1 R2 : List S41)
    (hT : ∀ k, K1 ≤ k → spec_pzAll.l1 k s cs (acc ++ [⟨x, y⟩]) x (wrap64 (y + 1)) = some R1) (hF : ∀ k, K1 ≤ k → spec_pzAll.l1 k s cs acc x (wrap64 (y + 1)) = some R2) (d : Nat) : ∀ (k i : Nat) (b : Bool), i + d = cs.length → K1 + d + 1 ≤ k →
    spec_pzAll.l2 k s cs acc x y b cs (cs.length : Int) (i : Int) x y = some (if (b && fitAll (cs.drop i) ⟨x, y⟩) = true then R1 else R2) := by
  induction d with
  | zero =>
    intro k i b hi hk
    obtain ⟨k, rfl⟩ : ∃ m, k = m + 1 := ⟨k - 1, by omega⟩
    simp only [spec_pzAll.l2]
    rw [if_neg (by omega), List.drop_of_length_le (by omega)]
    cases b with
    | true =>
      rw [if_pos rfl, if_pos (by omega)]
      exact hT k (by omega)
    | false =>
      rw [if_neg (by decide), if_neg (by simp)]
      exact hF k (by omega)
  | succ d ih =>
    intro k i b hi hk
    obtain ⟨k, rfl⟩ : ∃ m, k = m + 1 := ⟨k - 1, by omega⟩
    have hlt : i < cs.length := by omega
    simp only [spec_pzAll.l2]
    rw [if_pos (by omega), if_pos (by omega), if_pos (by omega), rdClueNat cs i hlt, List.drop_eq_getElem_cons hlt]
    have ho := hcs _ (List.getElem_mem hlt)
    cases b with
    | true =>
      rw [if_pos rfl, pzFits_eq k (by omega) _ ho.2.1 ho.2.2 hx hy, Option.bind_some, w64 (by omega) (by omega)]
      have := ih k (i + 1) (fitB cs[i] ⟨x, y⟩) (by omega) (by omega)
      rw [show ((i + 1 : Nat) : Int) = (i : Int) + 1 by omega] at this
      have e : decide (tells cs[i].f0 cs[i].f1 cs[i].f2 x y = if cs[i].f0 < 3 then cs[i].f1 else cs[i].f3) = fitB cs[i] ⟨x, y⟩ := rfl
      rw [e, this, Bool.true_and]
      rfl
    | false =>
      rw [if_neg (by decide), w64 (by omega) (by omega)]
      have := ih k (i + 1) false (by omega) (by omega)
      rw [show ((i + 1 : Nat) : Int) = (i : Int) + 1 by omega] at this
      rw [this, Bool.false_and, Bool.false_and]
theorem pzAll_l1 (cs : List S39) (hn : cs.length ≤ 6) (hcs : ∀ c ∈ cs, okClue c) (s : Nat) (hs : s ≤ 12) (x : Nat) (hx : x ≤ 12) (K0 : Nat) (hK0 : 100 < K0) (R : List S41) (B : Nat) (hB : B ≤ 20000)
    (hc : ∀ k acc, K0 ≤ k → acc.length ≤ B → spec_pzAll.l0 k (s : Int) cs acc (wrap64 ((x : Int) + 1)) = some (acc ++ R)) (d : Nat) : ∀ (k y : Nat) (acc : List S41), y + d = s + 1 → K0 + d * (cs.length + 2) + 1 ≤ k → acc.length + d ≤ B →
    spec_pzAll.l1 k (s : Int) cs acc (x : Int) (y : Int) = some (acc ++ (colFrom x y d).filter (fitAll cs) ++ R) := by
  induction d with
  | zero =>
    intro k y acc hy hk hl
    obtain ⟨k, rfl⟩ : ∃ m, k = m + 1 := ⟨k - 1, by omega⟩
    simp only [spec_pzAll.l1]
    rw [if_neg (by omega), hc k acc (by omega) (by omega)]
    simp [colFrom]
  | succ d ih =>
    intro k y acc hy hk hl
    obtain ⟨k, rfl⟩ : ∃ m, k = m + 1 := ⟨k - 1, by omega⟩
    rw [Nat.succ_mul] at hk
    simp only [spec_pzAll.l1]
    rw [if_pos (by omega)]
    have h2 := pzAll_l2 cs hn hcs (s : Int) (x : Int) (y : Int) acc (by omega) (by omega) (by omega) (K0 + d * (cs.length + 2) + 1) (by omega)
      (acc ++ [⟨(x : Int), (y : Int)⟩] ++ (colFrom x (y + 1) d).filter (fitAll cs) ++ R) (acc ++ (colFrom x (y + 1) d).filter (fitAll cs) ++ R)
      (fun k' hk' => by
        rw [w64 (by omega) (by omega)]
        exact ih k' (y + 1) (acc ++ [⟨(x : Int), (y : Int)⟩]) (by omega) hk' (by simp; omega))
      (fun k' hk' => by
        rw [w64 (by omega) (by omega)]
        exact ih k' (y + 1) acc (by omega) hk' (by omega))
      cs.length k 0 true (by omega) (by omega)
    rw [show ((0 : Nat) : Int) = 0 from rfl] at h2
    rw [h2, List.drop_zero, Bool.true_and, colFrom_succ, List.filter_cons]
    by_cases c : fitAll cs ⟨(x : Int), (y : Int)⟩ = true
    · rw [if_pos c, if_pos c]
      simp
    · rw [if_neg c, if_neg c]
theorem pzAll_l0 (cs : List S39) (hn : cs.length ≤ 6) (hcs : ∀ c ∈ cs, okClue c) (s : Nat) (hs : s ≤ 12) (e : Nat) : ∀ (k x : Nat) (acc : List S41), x + e = s + 1 → 101 + e * 200 + 1 ≤ k → acc.length + e * (s + 1) ≤ 20000 →
    spec_pzAll.l0 k (s : Int) cs acc (x : Int) = some (acc ++ (rowsFrom (s + 1) x e).filter (fitAll cs)) := by
  induction e with
  | zero =>
    intro k x acc hx hk hl
    obtain ⟨k, rfl⟩ : ∃ m, k = m + 1 := ⟨k - 1, by omega⟩
    simp only [spec_pzAll.l0]
    rw [if_neg (by omega)]
    simp [rowsFrom]
  | succ e ih =>
    intro k x acc hx hk hl
    obtain ⟨k, rfl⟩ : ∃ m, k = m + 1 := ⟨k - 1, by omega⟩
    rw [Nat.succ_mul] at hl
    simp only [spec_pzAll.l0]
    rw [if_pos (by omega)]
    have h9 : (s + 1) * (cs.length + 2) ≤ 13 * 8 := Nat.mul_le_mul (by omega) (by omega)
    have := pzAll_l1 cs hn hcs s hs x (by omega) (101 + e * 200 + 1) (by omega) ((rowsFrom (s + 1) (x + 1) e).filter (fitAll cs)) (20000 - e * (s + 1)) (by omega) (fun k' acc' hk' hl' => by
      rw [w64 (by omega) (by omega)]
      exact ih k' (x + 1) acc' (by omega) hk' (by omega)) (s + 1) k 0 acc (by omega) (by omega) (by omega)
    rw [show ((0 : Nat) : Int) = 0 from rfl] at this
    rw [this, rowsFrom_succ, List.filter_append, List.append_assoc]
/-- All pegs that fit clues, in order. -/
def sols (s : Nat) (cs : List S39) : List S41 := (rowsFrom (s + 1) 0 (s + 1)).filter (fitAll cs)
theorem pzAll_eq (k : Nat) (hk : 3000 ≤ k) (s : Nat) (hs : s ≤ 12) (cs : List S39) (hn : cs.length ≤ 6) (hcs : ∀ c ∈ cs, okClue c) : spec_pzAll.f k (s : Int) cs = some (sols s cs) := by
  unfold spec_pzAll.f
  have h1 : (s + 1) * (s + 1) ≤ 13 * 13 := Nat.mul_le_mul (by omega) (by omega)
  have := pzAll_l0 cs hn hcs s hs (s + 1) k 0 [] (by omega) (by omega) (by simp only [List.length_nil]; omega)
  rw [show ((0 : Nat) : Int) = 0 from rfl] at this
  rw [this]
  rfl

theorem indexFit_loop (cs : List S39) (hn : cs.length ≤ 6) (hcs : ∀ c ∈ cs, okClue c) (p : S41) (hp : okPeg p) (d : Nat) : ∀ (k i : Nat), i + d = cs.length → d + 101 < k →
    ∃ r, slices_IndexFunc_impl_Clue_impl_Clue_c1.l0 k cs (cs.length : Int) (i : Int) p.f0 p.f1 = some r ∧ decide (r ≥ 0) = !(fitAll (cs.drop i) p) := by
  induction d with
  | zero =>
    intro k i hi hk
    obtain ⟨k, rfl⟩ : ∃ m, k = m + 1 := ⟨k - 1, by omega⟩
    refine ⟨-1, ?_, ?_⟩
    · simp only [slices_IndexFunc_impl_Clue_impl_Clue_c1.l0]
      rw [if_neg (by omega)]
    · rw [List.drop_of_length_le (by omega)]
      rfl
  | succ d ih =>
    intro k i hi hk
    obtain ⟨k, rfl⟩ : ∃ m, k = m + 1 := ⟨k - 1, by omega⟩
    have hlt : i < cs.length := by omega
    have ho := hcs _ (List.getElem_mem hlt)
    simp only [slices_IndexFunc_impl_Clue_impl_Clue_c1.l0, impl_Puzzle_solutions_1_1.f]
    rw [if_pos (by omega), if_pos (by omega), if_pos (by omega), rdClueNat cs i hlt, fits_eq k (by omega) ho.1 ho.2.1 ho.2.2 hp.1 hp.2, Option.bind_some, Option.bind_some, List.drop_eq_getElem_cons hlt]
    have hb : decide (tells cs[i].f0 cs[i].f1 cs[i].f2 p.f0 p.f1 = if cs[i].f0 < 3 then cs[i].f1 else cs[i].f3) = fitB cs[i] p := rfl
    have he : fitAll (cs[i] :: cs.drop (i + 1)) p = (fitB cs[i] p && fitAll (cs.drop (i + 1)) p) := rfl
    rw [hb, he]
    by_cases c : fitB cs[i] p = true
    · obtain ⟨r, h1, h2⟩ := ih k (i + 1) (by omega) (by omega)
      refine ⟨r, ?_, ?_⟩
      · rw [c, if_neg (by decide), w64 (by omega) (by omega)]
        exact h1
      · rw [h2, c, Bool.true_and]
    · refine ⟨(i : Int), ?_, ?_⟩
      · rw [Bool.eq_false_iff.mpr c, if_pos (by decide)]
      · rw [Bool.eq_false_iff.mpr c, Bool.false_and, decide_eq_true_eq.mpr (by omega)]
        rfl
theorem misfit_eq (k : Nat) (hk : 200 ≤ k) (cs : List S39) (hn : cs.length ≤ 6) (hcs : ∀ c ∈ cs, okClue c) (p : S41) (hp : okPeg p) : impl_Puzzle_solutions_1.f k p.f0 p.f1 cs = some (!(fitAll cs p)) := by
  unfold impl_Puzzle_solutions_1.f slices_ContainsFunc_impl_Clue_impl_Clue_c1.f slices_IndexFunc_impl_Clue_impl_Clue_c1.f
  obtain ⟨r, h1, h2⟩ := indexFit_loop cs hn hcs p hp cs.length k 0 (by omega) (by omega)
  rw [show ((0 : Nat) : Int) = 0 from rfl] at h1
  rw [h1, Option.bind_some, Option.bind_some, h2, List.drop_zero]
theorem indexPeg_loop (cs : List S39) (hn : cs.length ≤ 6) (hcs : ∀ c ∈ cs, okClue c) (l : List S41) (hl : l.length ≤ 1000) (hp : ∀ p ∈ l, okPeg p) (d : Nat) : ∀ (k i : Nat), i + d = l.length → d + 200 < k → (∀ p ∈ l.take i, fitAll cs p = true) →
    ∃ r, slices_IndexFunc_impl_Peg_impl_Peg.l0 k l (l.length : Int) (i : Int) cs = some r ∧ ((r = -1 ∧ ∀ p ∈ l, fitAll cs p = true) ∨ ∃ j, ∃ hj : j < l.length, r = (j : Int) ∧ (∀ p ∈ l.take j, fitAll cs p = true) ∧ fitAll cs l[j] = false) := by
  induction d with
  | zero =>
    intro k i hi hk h
    obtain ⟨k, rfl⟩ : ∃ m, k = m + 1 := ⟨k - 1, by omega⟩
    refine ⟨-1, ?_, .inl ⟨rfl, ?_⟩⟩
    · simp only [slices_IndexFunc_impl_Peg_impl_Peg.l0]
      rw [if_neg (by omega)]
    · rw [List.take_of_length_le (by omega)] at h
      exact h
  | succ d ih =>
    intro k i hi hk h
    obtain ⟨k, rfl⟩ : ∃ m, k = m + 1 := ⟨k - 1, by omega⟩
    have hlt : i < l.length := by omega
    simp only [slices_IndexFunc_impl_Peg_impl_Peg.l0]
    rw [if_pos (by omega), if_pos (by omega), if_pos (by omega), rdPegNat l i hlt, misfit_eq k (by omega) cs hn hcs l[i] (hp _ (List.getElem_mem hlt)), Option.bind_some]
    by_cases c : fitAll cs l[i] = true
    · rw [c, if_neg (by decide), w64 (by omega) (by omega)]
      refine ih k (i + 1) (by omega) (by omega) fun p hp => ?_
      rw [List.take_add_one, List.getElem?_eq_getElem hlt, List.mem_append] at hp
      rcases hp with hp | hp
      · exact h p hp
      · simp at hp
        rw [hp]
        exact c
    · rw [Bool.eq_false_iff.mpr c, if_pos (by decide)]
      exact ⟨_, rfl, .inr ⟨i, hlt, rfl, h, Bool.eq_false_iff.mpr c⟩⟩
theorem delete_loop (cs : List S39) (hn : cs.length ≤ 6) (hcs : ∀ c ∈ cs, okClue c) (d : Nat) : ∀ (k i j : Nat) (x : List S41), x.length ≤ 1000 → (∀ p ∈ x.drop j, okPeg p) → j + d = x.length → i ≤ j → d + 201 < k →
    slices_DeleteFunc_impl_Peg_impl_Peg.l0 k x (i : Int) (j : Int) cs = some (x.take i ++ (x.drop j).filter (fitAll cs)) := by
  induction d with
  | zero =>
    intro k i j x hx hp hj hij hk
    obtain ⟨k, rfl⟩ : ∃ m, k = m + 1 := ⟨k - 1, by omega⟩
    simp only [slices_DeleteFunc_impl_Peg_impl_Peg.l0]
    rw [if_neg (by omega), if_pos (by omega), if_pos (by omega), List.drop_of_length_le (show x.length ≤ j by omega), Int.toNat_natCast, List.take_left' (by simp; omega)]
    simp
  | succ d ih =>
    intro k i j x hx hp hj hij hk
    obtain ⟨k, rfl⟩ : ∃ m, k = m + 1 := ⟨k - 1, by omega⟩
    have hlt : j < x.length := by omega
    have hd := List.drop_eq_getElem_cons hlt
    rw [hd] at hp
    simp only [slices_DeleteFunc_impl_Peg_impl_Peg.l0]
    rw [if_pos (by omega), if_pos (by omega), rdPegNat x j hlt, misfit_eq k (by omega) cs hn hcs x[j] (hp _ List.mem_cons_self), Option.bind_some, hd, List.filter_cons, w64 (x := (j : Int) + 1) (by omega) (by omega)]
    by_cases c : fitAll cs x[j] = true
    · rw [c, if_neg (by decide), if_pos (by omega), if_pos (by omega), if_pos rfl, w64 (by omega) (by omega), Int.toNat_natCast]
      have hdr : (x.set i x[j]).drop (j + 1) = x.drop (j + 1) := List.drop_set_of_lt (by omega)
      have htk : (x.set i x[j]).take (i + 1) = x.take i ++ [x[j]] := by
        rw [List.take_set, List.take_add_one, List.getElem?_eq_getElem (by omega), Option.toList_some, List.set_append_right _ _ (by simp; omega)]
        simp [Nat.min_eq_left (show i ≤ x.length by omega)]
      have := ih k (i + 1) (j + 1) (x.set i x[j]) (by simpa using hx) (by rw [hdr]; exact fun p h => hp p (List.mem_cons_of_mem _ h)) (by simp; omega) (by omega) (by omega)
      rw [hdr, htk] at this
      rw [show (i : Int) + 1 = ((i + 1 : Nat) : Int) by omega, show (j : Int) + 1 = ((j + 1 : Nat) : Int) by omega]
      refine this.trans ?_
      simp
    · rw [Bool.eq_false_iff.mpr c, if_pos (by decide), if_neg (by decide)]
      exact ih k i (j + 1) x hx (fun p h => hp p (List.mem_cons_of_mem _ h)) (by omega) (by omega) (by omega)
theorem deleteFunc_eq (k : Nat) (hk : 3000 ≤ k) (cs : List S39) (hn : cs.length ≤ 6) (hcs : ∀ c ∈ cs, okClue c) (l : List S41) (hl : l.length ≤ 1000) (hp : ∀ p ∈ l, okPeg p) : slices_DeleteFunc_impl_Peg_impl_Peg.f k l cs = some (l.filter (fitAll cs)) := by
  unfold slices_DeleteFunc_impl_Peg_impl_Peg.f slices_IndexFunc_impl_Peg_impl_Peg.f
  obtain ⟨r, h1, h2⟩ := indexPeg_loop cs hn hcs l hl hp l.length k 0 (by omega) (by omega) (by simp)
  rw [show ((0 : Nat) : Int) = 0 from rfl] at h1
  rw [h1, Option.bind_some]
  rcases h2 with ⟨rfl, h⟩ | ⟨j, hj, rfl, h, hf⟩
  · rw [if_pos rfl, List.filter_eq_self.2 h]
  · rw [if_neg (by omega), w64 (by omega) (by omega)]
    have := delete_loop cs hn hcs (l.length - (j + 1)) k j (j + 1) l hl (fun p h => hp p (List.mem_of_mem_drop h)) (by omega) (by omega) (by omega)
    rw [show (j : Int) + 1 = ((j + 1 : Nat) : Int) by omega, this]
    congr 1
    conv => rhs; rw [← List.take_append_drop j l, List.filter_append, List.drop_eq_getElem_cons hj, List.filter_cons, hf, if_neg (by decide), List.filter_eq_self.2 h]
theorem solutions_eq (k : Nat) (hk : 11000 ≤ k) (s : Nat) (hs : s ≤ 12) (l cs : List S39) (hn : cs.length ≤ 6) (hcs : ∀ c ∈ cs, okClue c) : impl_Puzzle_solutions.f k (s : Int) l cs = some (sols s cs) := by
  unfold impl_Puzzle_solutions.f
  have h1 : (s + 1) * (s + 1) ≤ 13 * 13 := Nat.mul_le_mul (by omega) (by omega)
  rw [w64 (by omega) (by omega), show (s : Int) + 1 = ((s + 1 : Nat) : Int) by omega, board_eq k (s + 1) (s + 1) (by omega) (by omega) (by omega), Option.bind_some,
    deleteFunc_eq k (by omega) cs hn hcs _ (by rw [rowsFrom_length]; omega) (fun p hp => by
      have := rows_bound (s + 1) 0 (s + 1) 13 (by omega) (by omega) p hp
      exact ⟨⟨this.1.1, by omega⟩, ⟨this.2.1, by omega⟩⟩), Option.bind_some]
  rfl
theorem sols_length (s : Nat) (hs : s ≤ 12) (cs : List S39) : (sols s cs).length ≤ 169 := by
  have h1 : (s + 1) * (s + 1) ≤ 13 * 13 := Nat.mul_le_mul (by omega) (by omega)
  have := List.length_filter_le (fitAll cs) (rowsFrom (s + 1) 0 (s + 1))
  rw [rowsFrom_length] at this
  unfold sols
  omega

theorem puzB_facts {s : Int} {l : List S39} (h : puzB s l = true) : ∃ n : Nat, s = (n : Int) ∧ n ≤ 12 ∧ l.length ≤ 6 ∧ ∀ c ∈ l, okClue c := by
  unfold puzB at h
  rw [Bool.and_eq_true, Bool.and_eq_true, decide_eq_true_eq, decide_eq_true_eq, List.all_eq_true] at h
  obtain ⟨h1, h2, h3⟩ := h
  exact ⟨s.toNat, by omega, by omega, h2, fun c hc => okClue_of h1 (h3 c hc)⟩

/-- The one pure statement of the law FnExactFirstSolution. -/
def FnExactFirstSolution.Pure : Prop :=
  ∀ (a0_0 : Int) (l0_1 : List (S34)), I64 a0_0 → l0_1.length ≤ maxLen → (∀ x ∈ l0_1, I64 x.f0 ∧ I64 x.f1 ∧ I64 x.f2 ∧ I64 x.f3) → ∃ k, laws_FnExactFirstSolution.f k a0_0 l0_1 = some true

theorem firstSol_eq (s : Int) (l : List S39) : ∃ R, ∀ k, 12000 ≤ k → spec_FirstSolution.f k s l = some R ∧ impl_FirstSolution.f k s l = some R := by
  by_cases p : puzB s l = true
  · obtain ⟨n, rfl, h1, h2, h3⟩ := puzB_facts p
    have hlen := sols_length n h1 l
    have hcl : slices_Clone_impl_Peg_impl_Peg.f (sols n l) = some (sols n l) := by
      unfold slices_Clone_impl_Peg_impl_Peg.f
      simp only [Option.bind_some, List.nil_append, List.length_nil]
      rw [if_pos (by omega)]
    refine ⟨if ((sols n l).length : Int) = 0 then (0, 0, false) else ((rd_T41 (sols n l) 0).f0, (rd_T41 (sols n l) 0).f1, true), fun k hk => ?_⟩
    unfold spec_FirstSolution.f impl_FirstSolution.f impl_Solutions.f
    rw [pzGood_eq k (by omega), isPuzzle_eq k (by omega), Option.bind_some, Option.bind_some, if_pos p, if_pos p, pzAll_eq k (by omega) n h1 l h2 h3, solutions_eq k (by omega) n h1 l l h2 h3, Option.bind_some, Option.bind_some, hcl, Option.bind_some, Option.bind_some]
    simp only []
    rw [if_pos trivial]
    by_cases e : ((sols n l).length : Int) = 0
    · rw [if_pos e, if_pos e]
      exact ⟨rfl, rfl⟩
    · rw [if_neg e, if_neg e, if_pos (by omega)]
      exact ⟨rfl, rfl⟩
  · refine ⟨(0, 0, false), fun k hk => ?_⟩
    unfold spec_FirstSolution.f impl_FirstSolution.f impl_Solutions.f
    rw [pzGood_eq k (by omega), isPuzzle_eq k (by omega), Option.bind_some, Option.bind_some, if_neg p, if_neg p]
    exact ⟨rfl, rfl⟩
theorem FnExactFirstSolution : FnExactFirstSolution.Pure := by
  intro s l _ hl _
  obtain ⟨k, hk⟩ : ∃ k : Nat, 1048600 ≤ k := ⟨1048600, Nat.le_refl _⟩
  refine ⟨k + 1, ?_⟩
  unfold laws_FnExactFirstSolution.f
  rw [szPuzzle_eq s l hl, Option.bind_some]
  by_cases c : 1048576 < l.length
  · rw [if_pos c, if_pos (by decide)]
  · obtain ⟨R, hR⟩ := firstSol_eq s (l.map convClue)
    rw [if_neg c, if_neg (by omega), toPuzzle_eq (k + 1) s l (by omega) (by omega), Option.bind_some]
    simp only []
    rw [(hR (k + 1) (by omega)).1, Option.bind_some, Option.bind_some]
    simp only []
    rw [(hR (k + 1) (by omega)).2, Option.bind_some]
    unfold laws_eqPeg.f
    rw [if_pos rfl, if_pos rfl, Option.bind_some, if_pos rfl]
    simp only [laws_FnExactFirstSolution.j0]
    rw [if_neg (by simp), toPuzzle_eq k s l (by omega) (by omega), Option.bind_some]
    simp only []
    rw [eqPuzzle_self k s _ (by simp; omega) (by simp; omega), Option.bind_some, if_pos rfl]

end Go.Proofs.Ytlhiificglpgkaa.Pure
