/- Pairs are counted by their steps, threes are triangles or in a line, areas share the triangles, and turned boards have as many, for all arguments. No condition. -/
import Derived.Test.YtmenfomcikfnmaaMBx0
import Derived.Test.YtmenfomcikfnmaaMBx2
import Derived.Test.YtmenfomcikfnmaaMBx3
import Derived.Test.YtmenfomcikfnmaaMBx4
import Derived.Test.YtmenfomcikfnmaaMBx5
import Derived.Test.YtmenfomcikfnmaaMBx6
import Derived.Test.YtmenfomcikfnmaaMBx7
import Derived.Test.YtmenfomcikfnmaaMBx8
import Derived.Test.YtmenfomcikfnmaaMBx9
import Derived.Test.YtmenfomcikfnmaaMBx10
import Derived.Test.YtmenfomcikfnmaaMBx11
import Derived.Test.YtmenfomcikfnmaaMBx12
import Derived.Test.YtmenfomcikfnmaaMBx13
import Derived.Test.YtmenfomcikfnmaaMBx14
import Derived.Test.YtmenfomcikfnmaaMBx15
import Derived.Test.YtmenfomcikfnmaaMBx16
import Derived.Test.YtmenfomcikfnmaaMBx17
import Derived.Test.YtmenfomcikfnmaaMBx18
import Derived.Test.YtmenfomcikfnmaaMBx19
import Derived.Test.YtmenfomcikfnmaaMBx20
import Derived.Test.YtmenfomcikfnmaaMBx21
import Derived.Test.YtmenfomcikfnmaaMBx22
import Derived.Test.YtmenfomcikfnmaaHBb
import Derived.Test.YtmenfomcikfnmaaV
namespace Go.Proofs.Ytmenfomcikfnmaa.Pure
open Go.RowKit Go.Proofs.YtmenfomcikfnmaaV Go.Proofs.Ytmenfomcikfnmaa.MB Go.Proofs.YtmenfomcikfnmaaW.PrintWords Go.Proofs.YtmenfomcikfnmaaW.PrintLast Go.Proofs.YtmenfomcikfnmaaW.PrintMore

theorem in_eq (a lo hi : Int) : spec_l1In.f a lo hi = some (decide (lo ≤ a ∧ a ≤ hi)) := by
  unfold spec_l1In.f
  by_cases h : lo ≤ a
  · rw [if_pos h]; simp [h]
  · rw [if_neg h]; simp [h]

theorem within_eq (a lo hi : Int) : impl_within.f a lo hi = some (decide (lo ≤ a ∧ a ≤ hi)) := by
  unfold impl_within.f
  by_cases h : lo ≤ a
  · rw [if_pos h]; simp [h]
  · rw [if_neg h]; simp [h]

theorem w64 {x : Int} (h0 : -9223372036854775808 ≤ x) (h1 : x ≤ 9223372036854775807) : wrap64 x = x := by
  unfold wrap64
  omega

theorem mul_bd {x y : Int} (A B : Nat) (hx : -(A : Int) ≤ x ∧ x ≤ A) (hy : -(B : Int) ≤ y ∧ y ≤ B) : -((A * B : Nat) : Int) ≤ x * y ∧ x * y ≤ ((A * B : Nat) : Int) := by
  have h1 : x.natAbs ≤ A := by omega
  have h2 : y.natAbs ≤ B := by omega
  have h3 := Nat.mul_le_mul h1 h2
  rw [← Int.natAbs_mul] at h3
  omega

/-- Twice the area of three points. -/
def tri (ax ay bx by_ cx cy : Int) : Int := (bx - ax) * (cy - ay) - (by_ - ay) * (cx - ax)

theorem pgTurn_eq (M : Nat) (hM : M ≤ 1000000) {ax ay bx by_ cx cy : Int} (h1 : -(M : Int) ≤ ax ∧ ax ≤ M) (h2 : -(M : Int) ≤ ay ∧ ay ≤ M) (h3 : -(M : Int) ≤ bx ∧ bx ≤ M) (h4 : -(M : Int) ≤ by_ ∧ by_ ≤ M) (h5 : -(M : Int) ≤ cx ∧ cx ≤ M) (h6 : -(M : Int) ≤ cy ∧ cy ≤ M) :
    spec_pgTurn.f ax ay bx by_ cx cy = some (tri ax ay bx by_ cx cy) := by
  unfold spec_pgTurn.f tri
  rw [w64 (x := bx - ax) (by omega) (by omega), w64 (x := cy - ay) (by omega) (by omega), w64 (x := by_ - ay) (by omega) (by omega), w64 (x := cx - ax) (by omega) (by omega)]
  have q1 := mul_bd 2000000 2000000 (x := bx - ax) (y := cy - ay) (by omega) (by omega)
  have q2 := mul_bd 2000000 2000000 (x := by_ - ay) (y := cx - ax) (by omega) (by omega)
  rw [w64 (x := (bx - ax) * (cy - ay)) (by omega) (by omega), w64 (x := (by_ - ay) * (cx - ax)) (by omega) (by omega), w64 (by omega) (by omega)]

theorem turn_eq (M : Nat) (hM : M ≤ 1000000) {ax ay bx by_ cx cy : Int} (h1 : -(M : Int) ≤ ax ∧ ax ≤ M) (h2 : -(M : Int) ≤ ay ∧ ay ≤ M) (h3 : -(M : Int) ≤ bx ∧ bx ≤ M) (h4 : -(M : Int) ≤ by_ ∧ by_ ≤ M) (h5 : -(M : Int) ≤ cx ∧ cx ≤ M) (h6 : -(M : Int) ≤ cy ∧ cy ≤ M) :
    impl_turn.f ax ay bx by_ cx cy = some (tri ax ay bx by_ cx cy) := by
  unfold impl_turn.f impl_Peg_less.f impl_cross.f tri
  simp only [Option.bind_some]
  rw [w64 (x := bx - ax) (by omega) (by omega), w64 (x := cy - ay) (by omega) (by omega), w64 (x := by_ - ay) (by omega) (by omega), w64 (x := cx - ax) (by omega) (by omega)]
  have q1 := mul_bd 2000000 2000000 (x := bx - ax) (y := cy - ay) (by omega) (by omega)
  have q2 := mul_bd 2000000 2000000 (x := by_ - ay) (y := cx - ax) (by omega) (by omega)
  rw [w64 (x := (bx - ax) * (cy - ay)) (by omega) (by omega), w64 (x := (by_ - ay) * (cx - ax)) (by omega) (by omega), w64 (by omega) (by omega)]

theorem ctBoard_eq (w h m : Int) : spec_ctBoard.f w h m = some (decide ((1 ≤ w ∧ w ≤ m) ∧ (1 ≤ h ∧ h ≤ m))) := by
  unfold spec_ctBoard.f
  simp only [in_eq, Option.bind_some]
  by_cases c : 1 ≤ w ∧ w ≤ m
  · simp [c]
  · simp [c]

theorem isBoard_eq (w h m : Int) : impl_isBoard.f w h m = some (decide ((1 ≤ w ∧ w ≤ m) ∧ (1 ≤ h ∧ h ≤ m))) := by
  unfold impl_isBoard.f
  simp only [within_eq, Option.bind_some]
  by_cases c : 1 ≤ w ∧ w ≤ m
  · simp [c]
  · simp [c]

theorem all_boards (p : Int → Int → Prop) (h : ∀ a b : Fin 12, p ((a.val : Int) + 1) ((b.val : Int) + 1)) (w v : Int) (c : (1 ≤ w ∧ w ≤ 12) ∧ (1 ≤ v ∧ v ≤ 12)) : p w v := by
  have h1 := h ⟨(w - 1).toNat, by omega⟩ ⟨(v - 1).toNat, by omega⟩
  have e1 : (((w - 1).toNat : Nat) : Int) + 1 = w := by omega
  have e2 : (((v - 1).toNat : Nat) : Int) + 1 = v := by omega
  simpa only [e1, e2] using h1

theorem size_eq {x : Int} (h : -9223372036854775807 ≤ x ∧ x ≤ 9223372036854775807) : impl_size.f x = some (x.natAbs : Int) := by
  unfold impl_size.f mx
  rw [w64 (x := -x) (by omega) (by omega)]
  split
  · congr 1; omega
  · congr 1; omega

theorem l1Abs_eq {x : Int} (h : -9223372036854775807 ≤ x ∧ x ≤ 9223372036854775807) : spec_l1Abs.f x = some (x.natAbs : Int) := by
  unfold spec_l1Abs.f spec_l1Most.f
  rw [w64 (x := -x) (by omega) (by omega)]
  split
  · show some x = _
    congr 1; omega
  · show some (-x) = _
    congr 1; omega

theorem gcd_step (a b : Int) (hb : b ≠ 0) : Int.gcd b (Int.tmod a b) = Int.gcd a b ∧ (Int.tmod a b).natAbs < b.natAbs := by
  have h1 : (Int.tmod a b).natAbs = a.natAbs % b.natAbs := Int.natAbs_tmod a b
  have hb' : 0 < b.natAbs := by omega
  refine ⟨?_, by rw [h1]; exact Nat.mod_lt _ hb'⟩
  unfold Int.gcd
  rw [h1, Nat.gcd_comm a.natAbs b.natAbs, Nat.gcd_rec b.natAbs a.natAbs, Nat.gcd_comm]

theorem divisor_loop (n : Nat) : ∀ (k : Nat) (a b : Int), b.natAbs ≤ n → n < k → a.natAbs ≤ 9223372036854775807 → b.natAbs ≤ 9223372036854775807 → impl_divisor.l0 k a b = some (Int.gcd a b : Int) := by
  induction n with
  | zero =>
    intro k a b hb hk ha _
    obtain ⟨k, rfl⟩ : ∃ m, k = m + 1 := ⟨k - 1, by omega⟩
    have h0 : b = 0 := by omega
    subst h0
    rw [impl_divisor.l0, if_pos rfl, size_eq (by omega)]
    simp [Int.gcd]
  | succ n ih =>
    intro k a b hb hk ha hb2
    obtain ⟨k, rfl⟩ : ∃ m, k = m + 1 := ⟨k - 1, by omega⟩
    by_cases h0 : b = 0
    · exact ih (k + 1) a b (by omega) (by omega) ha hb2
    · obtain ⟨e, hlt⟩ := gcd_step a b h0
      simp only [impl_divisor.l0]
      rw [if_neg h0, ih k b (Int.tmod a b) (by omega) (by omega) hb2 (by omega), e]

theorem divisor_eq (k : Nat) {a b : Int} (hk : b.natAbs < k) (ha : a.natAbs ≤ 9223372036854775807) (hb : b.natAbs ≤ 9223372036854775807) : impl_divisor.f k a b = some (Int.gcd a b : Int) :=
  divisor_loop b.natAbs k a b (Nat.le_refl _) hk ha hb

theorem common_loop (n : Nat) : ∀ (k : Nat) (a b : Int), 0 ≤ a → 0 ≤ b → b.natAbs ≤ n → n < k → spec_pgCommon.l0 k a b = some (Int.gcd a b : Int) := by
  induction n with
  | zero =>
    intro k a b ha _ hb hk
    obtain ⟨k, rfl⟩ : ∃ m, k = m + 1 := ⟨k - 1, by omega⟩
    have h0 : b = 0 := by omega
    subst h0
    simp only [spec_pgCommon.l0]
    rw [if_neg (by omega)]
    simp only [Int.gcd, Int.natAbs_zero, Nat.gcd_zero_right]
    congr 1; omega
  | succ n ih =>
    intro k a b ha hb0 hb hk
    obtain ⟨k, rfl⟩ : ∃ m, k = m + 1 := ⟨k - 1, by omega⟩
    by_cases h0 : b = 0
    · exact ih (k + 1) a b ha hb0 (by omega) (by omega)
    · obtain ⟨e, hlt⟩ := gcd_step a b h0
      simp only [spec_pgCommon.l0]
      rw [if_pos (by omega), if_neg h0, ih k b (Int.tmod a b) hb0 (Int.tmod_nonneg _ ha) (by omega) (by omega), e]

theorem common_eq (k : Nat) {a b : Int} (hk : b.natAbs < k) (ha : a.natAbs ≤ 9223372036854775807) (hb : b.natAbs ≤ 9223372036854775807) : spec_pgCommon.f k a b = some (Int.gcd a b : Int) := by
  unfold spec_pgCommon.f
  rw [l1Abs_eq (x := a) (by omega), l1Abs_eq (x := b) (by omega)]
  simp only [Option.bind_some]
  rw [common_loop b.natAbs k _ _ (by omega) (by omega) (by omega) hk]
  simp [Int.gcd]

theorem steps_eq (M : Nat) (hM : M ≤ 1000000) (k : Nat) {ax ay bx by_ : Int} (h1 : -(M : Int) ≤ ax ∧ ax ≤ M) (h2 : -(M : Int) ≤ ay ∧ ay ≤ M) (h3 : -(M : Int) ≤ bx ∧ bx ≤ M) (h4 : -(M : Int) ≤ by_ ∧ by_ ≤ M) (hk : 2 * M < k) :
    impl_steps.f k ax ay bx by_ = some (Int.gcd (ax - bx) (ay - by_) : Int) := by
  unfold impl_steps.f
  rw [w64 (x := ax - bx) (by omega) (by omega), w64 (x := ay - by_) (by omega) (by omega), divisor_eq k (by omega) (by omega) (by omega)]
  rfl

theorem pgStep_eq (M : Nat) (hM : M ≤ 1000000) (k : Nat) {ax ay bx by_ : Int} (h1 : -(M : Int) ≤ ax ∧ ax ≤ M) (h2 : -(M : Int) ≤ ay ∧ ay ≤ M) (h3 : -(M : Int) ≤ bx ∧ bx ≤ M) (h4 : -(M : Int) ≤ by_ ∧ by_ ≤ M) (hk : 2 * M < k) :
    spec_pgStep.f k ax ay bx by_ = some (Int.gcd (ax - bx) (ay - by_) : Int) := by
  unfold spec_pgStep.f
  rw [w64 (x := ax - bx) (by omega) (by omega), w64 (x := ay - by_) (by omega) (by omega), common_eq k (by omega) (by omega) (by omega)]
  rfl

/-- The pegs of a board from column x on, e columns. -/
def rowsFrom (h x e : Nat) : List S36 := (List.range' x e).flatMap fun (x : Nat) => (List.range' 0 h).map fun (y : Nat) => (⟨(x : Int), (y : Int)⟩ : S36)
def colFrom (x y d : Nat) : List S36 := (List.range' y d).map fun (y : Nat) => (⟨(x : Int), (y : Int)⟩ : S36)
theorem colFrom_succ (x y d : Nat) : colFrom x y (d + 1) = (⟨(x : Int), (y : Int)⟩ : S36) :: colFrom x (y + 1) d := by
  simp [colFrom, List.range'_succ]
theorem rowsFrom_succ (h x e : Nat) : rowsFrom h x (e + 1) = colFrom x 0 h ++ rowsFrom h (x + 1) e := by
  simp [rowsFrom, colFrom, List.range'_succ]
theorem rowsFrom_length (h x e : Nat) : (rowsFrom h x e).length = e * h := by
  induction e generalizing x with
  | zero => simp [rowsFrom]
  | succ e ih => rw [rowsFrom_succ, List.length_append, ih, Nat.succ_mul]; simp [colFrom]; omega

theorem ctPegs_in (w h : Nat) (hh : h ≤ 100) (x : Nat) (K0 : Nat) (R : List S36) (B : Nat) (hB : B ≤ 100000)
    (hc : ∀ k acc, K0 ≤ k → acc.length ≤ B → spec_ctPegs.l0 k (w : Int) (h : Int) acc (wrap64 ((x : Int) + 1)) = some (acc ++ R)) (d : Nat) : ∀ (k y : Nat) (acc : List S36), y + d = h → K0 + d + 1 ≤ k → acc.length + d ≤ B →
    spec_ctPegs.l1 k (w : Int) (h : Int) acc (x : Int) (y : Int) = some (acc ++ colFrom x y d ++ R) := by
  induction d with
  | zero =>
    intro k y acc hy hk hl
    obtain ⟨k, rfl⟩ : ∃ m, k = m + 1 := ⟨k - 1, by omega⟩
    simp only [spec_ctPegs.l1]
    rw [if_neg (by omega), hc k acc (by omega) (by omega)]
    simp [colFrom]
  | succ d ih =>
    intro k y acc hy hk hl
    obtain ⟨k, rfl⟩ : ∃ m, k = m + 1 := ⟨k - 1, by omega⟩
    simp only [spec_ctPegs.l1]
    rw [if_pos (by omega), if_pos (by omega), w64 (by omega) (by omega)]
    have := ih k (y + 1) (acc ++ [⟨(x : Int), (y : Int)⟩]) (by omega) (by omega) (by simp; omega)
    rw [show ((y : Int) + 1) = ((y + 1 : Nat) : Int) by omega, this, colFrom_succ]
    simp
theorem ctPegs_loop (w h : Nat) (hw : w ≤ 100) (hh : h ≤ 100) (e : Nat) : ∀ (k x : Nat) (acc : List S36), x + e = w → e * (h + 2) + 1 ≤ k → acc.length + e * h ≤ 20000 →
    spec_ctPegs.l0 k (w : Int) (h : Int) acc (x : Int) = some (acc ++ rowsFrom h x e) := by
  induction e with
  | zero =>
    intro k x acc hx hk hl
    obtain ⟨k, rfl⟩ : ∃ m, k = m + 1 := ⟨k - 1, by omega⟩
    simp only [spec_ctPegs.l0]
    rw [if_neg (by omega)]
    simp [rowsFrom]
  | succ e ih =>
    intro k x acc hx hk hl
    obtain ⟨k, rfl⟩ : ∃ m, k = m + 1 := ⟨k - 1, by omega⟩
    rw [Nat.succ_mul] at hk hl
    simp only [spec_ctPegs.l0]
    rw [if_pos (by omega)]
    have := ctPegs_in w h hh x (e * (h + 2) + 1) (rowsFrom h (x + 1) e) (acc.length + h) (by omega) (fun k' acc' hk' hl' => by
      rw [w64 (by omega) (by omega)]
      exact ih k' (x + 1) acc' (by omega) hk' (by omega)) h k 0 acc (by omega) (by omega) (by omega)
    rw [show ((0 : Nat) : Int) = 0 from rfl] at this
    rw [this, rowsFrom_succ, List.append_assoc]
theorem ctPegs_eq (k w h : Nat) (hw : w ≤ 100) (hh : h ≤ 100) (hk : 10300 ≤ k) : spec_ctPegs.f k (w : Int) (h : Int) = some (rowsFrom h 0 w) := by
  unfold spec_ctPegs.f
  have h1 : w * (h + 2) ≤ 100 * 102 := Nat.mul_le_mul hw (by omega)
  have h2 : w * h ≤ 100 * 100 := Nat.mul_le_mul hw hh
  have := ctPegs_loop w h hw hh w k 0 [] (by omega) (by omega) (by simp; omega)
  rw [show ((0 : Nat) : Int) = 0 from rfl] at this
  rw [this]
  simp

theorem board_in (w h : Nat) (hh : h ≤ 100) (x : Nat) (K0 : Nat) (R : List S36) (B : Nat) (hB : B ≤ 100000)
    (hc : ∀ k acc, K0 ≤ k → acc.length ≤ B → impl_board.l0 k (h : Int) acc (w : Int) (wrap64 ((x : Int) + 1)) = some (acc ++ R)) (d : Nat) : ∀ (k y : Nat) (acc : List S36), y + d = h → K0 + d + 1 ≤ k → acc.length + d ≤ B →
    impl_board.l1 k (h : Int) acc (x : Int) (w : Int) (x : Int) (h : Int) (y : Int) = some (acc ++ colFrom x y d ++ R) := by
  induction d with
  | zero =>
    intro k y acc hy hk hl
    obtain ⟨k, rfl⟩ : ∃ m, k = m + 1 := ⟨k - 1, by omega⟩
    simp only [impl_board.l1]
    rw [if_neg (by omega), hc k acc (by omega) (by omega)]
    simp [colFrom]
  | succ d ih =>
    intro k y acc hy hk hl
    obtain ⟨k, rfl⟩ : ∃ m, k = m + 1 := ⟨k - 1, by omega⟩
    simp only [impl_board.l1]
    rw [if_pos (by omega), if_pos (by omega), w64 (by omega) (by omega)]
    have := ih k (y + 1) (acc ++ [⟨(x : Int), (y : Int)⟩]) (by omega) (by omega) (by simp; omega)
    rw [show ((y : Int) + 1) = ((y + 1 : Nat) : Int) by omega, this, colFrom_succ]
    simp
theorem board_loop (w h : Nat) (hw : w ≤ 100) (hh : h ≤ 100) (e : Nat) : ∀ (k x : Nat) (acc : List S36), x + e = w → e * (h + 2) + 1 ≤ k → acc.length + e * h ≤ 20000 →
    impl_board.l0 k (h : Int) acc (w : Int) (x : Int) = some (acc ++ rowsFrom h x e) := by
  induction e with
  | zero =>
    intro k x acc hx hk hl
    obtain ⟨k, rfl⟩ : ∃ m, k = m + 1 := ⟨k - 1, by omega⟩
    simp only [impl_board.l0]
    rw [if_neg (by omega)]
    simp [rowsFrom]
  | succ e ih =>
    intro k x acc hx hk hl
    obtain ⟨k, rfl⟩ : ∃ m, k = m + 1 := ⟨k - 1, by omega⟩
    rw [Nat.succ_mul] at hk hl
    simp only [impl_board.l0]
    rw [if_pos (by omega)]
    have := board_in w h hh x (e * (h + 2) + 1) (rowsFrom h (x + 1) e) (acc.length + h) (by omega) (fun k' acc' hk' hl' => by
      rw [w64 (by omega) (by omega)]
      exact ih k' (x + 1) acc' (by omega) hk' (by omega)) h k 0 acc (by omega) (by omega) (by omega)
    rw [show ((0 : Nat) : Int) = 0 from rfl] at this
    rw [this, rowsFrom_succ, List.append_assoc]
theorem board_eq (k w h : Nat) (hw : w ≤ 100) (hh : h ≤ 100) (hk : 10300 ≤ k) : impl_board.f k (w : Int) (h : Int) = some (rowsFrom h 0 w) := by
  unfold impl_board.f
  have h1 : w * (h + 2) ≤ 100 * 102 := Nat.mul_le_mul hw (by omega)
  have h2 : w * h ≤ 100 * 100 := Nat.mul_le_mul hw hh
  have := board_loop w h hw hh w k 0 [] (by omega) (by omega) (by simp; omega)
  rw [show ((0 : Nat) : Int) = 0 from rfl] at this
  rw [this]
  simp

theorem rows_bound (h x e M : Nat) (hM : x + e ≤ M) (hh : h ≤ M) : ∀ p ∈ rowsFrom h x e, (0 ≤ p.f0 ∧ p.f0 < M) ∧ (0 ≤ p.f1 ∧ p.f1 < M) := by
  intro p hp
  unfold rowsFrom at hp
  rw [List.mem_flatMap] at hp
  obtain ⟨a, ha, hp⟩ := hp
  rw [List.mem_map] at hp
  obtain ⟨b, hb, rfl⟩ := hp
  rw [List.mem_range'_1] at ha hb
  refine ⟨⟨?_, ?_⟩, ⟨?_, ?_⟩⟩ <;> simp <;> omega

def seenB (px py : Int) (q : S36) : Bool := decide (Int.gcd (px - q.f0) (py - q.f1) = 1)
theorem seen_impl (px py : Int) (hx : -(100 : Int) ≤ px ∧ px ≤ 100) (hy : -(100 : Int) ≤ py ∧ py ≤ 100) (l : List S36) (hl : l.length ≤ 100000) (hb : ∀ p ∈ l, (-(100 : Int) ≤ p.f0 ∧ p.f0 ≤ 100) ∧ (-(100 : Int) ≤ p.f1 ∧ p.f1 ≤ 100)) (d : Nat) : ∀ (k i c : Nat), i + d = l.length → d + 300 < k → c + d ≤ 1000000 →
    impl_PegsSeen.l0 k (c : Int) l (l.length : Int) (i : Int) px py = some (((c + (l.drop i).countP (seenB px py) : Nat) : Int), true) := by
  induction d with
  | zero =>
    intro k i c hi hk hc
    obtain ⟨k, rfl⟩ : ∃ m, k = m + 1 := ⟨k - 1, by omega⟩
    simp only [impl_PegsSeen.l0]
    rw [if_neg (by omega), List.drop_of_length_le (by omega)]
    rfl
  | succ d ih =>
    intro k i c hi hk hc
    obtain ⟨k, rfl⟩ : ∃ m, k = m + 1 := ⟨k - 1, by omega⟩
    have hlt : i < l.length := by omega
    have hr : rd_T36 l (i : Int) = l[i] := by
      unfold rd_T36
      simp [List.getD_eq_getElem?_getD, List.getElem?_eq_getElem hlt]
    obtain ⟨hp0, hp1⟩ := hb l[i] (List.getElem_mem hlt)
    simp only [impl_PegsSeen.l0]
    rw [if_pos (by omega), if_pos (by omega), if_pos (by omega), hr, steps_eq 100 (by omega) k hx hy hp0 hp1 (by omega), Option.bind_some]
    rw [List.drop_eq_getElem_cons hlt, List.countP_cons, w64 (x := (i : Int) + 1) (by omega) (by omega), w64 (x := (c : Int) + 1) (by omega) (by omega)]
    by_cases g : Int.gcd (px - l[i].f0) (py - l[i].f1) = 1
    · rw [if_pos (by omega), show ((c : Int) + 1) = ((c + 1 : Nat) : Int) by omega, show ((i : Int) + 1) = ((i + 1 : Nat) : Int) by omega, ih k (i + 1) (c + 1) (by omega) (by omega) (by omega), if_pos (by simpa [seenB] using g)]
      congr 3
      omega
    · rw [if_neg (by omega), show ((i : Int) + 1) = ((i + 1 : Nat) : Int) by omega, ih k (i + 1) c (by omega) (by omega) (by omega), if_neg (by simpa [seenB] using g)]
      rfl
theorem seen_spec (px py : Int) (hx : -(100 : Int) ≤ px ∧ px ≤ 100) (hy : -(100 : Int) ≤ py ∧ py ≤ 100) (l : List S36) (hl : l.length ≤ 100000) (hb : ∀ p ∈ l, (-(100 : Int) ≤ p.f0 ∧ p.f0 ≤ 100) ∧ (-(100 : Int) ≤ p.f1 ∧ p.f1 ≤ 100)) (d : Nat) : ∀ (k i c : Nat), i + d = l.length → d + 300 < k → c + d ≤ 1000000 →
    spec_PegsSeen.l0 k (c : Int) l (l.length : Int) (i : Int) px py = some (((c + (l.drop i).countP (seenB px py) : Nat) : Int), true) := by
  induction d with
  | zero =>
    intro k i c hi hk hc
    obtain ⟨k, rfl⟩ : ∃ m, k = m + 1 := ⟨k - 1, by omega⟩
    simp only [spec_PegsSeen.l0]
    rw [if_neg (by omega), List.drop_of_length_le (by omega)]
    rfl
  | succ d ih =>
    intro k i c hi hk hc
    obtain ⟨k, rfl⟩ : ∃ m, k = m + 1 := ⟨k - 1, by omega⟩
    have hlt : i < l.length := by omega
    have hr : rd_T36 l (i : Int) = l[i] := by
      unfold rd_T36
      simp [List.getD_eq_getElem?_getD, List.getElem?_eq_getElem hlt]
    obtain ⟨hp0, hp1⟩ := hb l[i] (List.getElem_mem hlt)
    simp only [spec_PegsSeen.l0]
    rw [if_pos (by omega), if_pos (by omega), if_pos (by omega), hr, pgStep_eq 100 (by omega) k hx hy hp0 hp1 (by omega), Option.bind_some]
    rw [List.drop_eq_getElem_cons hlt, List.countP_cons, w64 (x := (i : Int) + 1) (by omega) (by omega), w64 (x := (c : Int) + 1) (by omega) (by omega)]
    by_cases g : Int.gcd (px - l[i].f0) (py - l[i].f1) = 1
    · have hne : (!(l[i].f0 == px) || !(l[i].f1 == py)) = true := by
        rw [Bool.or_eq_true, Bool.not_eq_true', Bool.not_eq_true', beq_eq_false_iff_ne, beq_eq_false_iff_ne]
        by_cases e0 : l[i].f0 = px
        · refine .inr fun e1 => ?_
          rw [e0, e1] at g
          simp at g
        · exact .inl e0
      rw [if_pos hne, if_pos (by omega), show ((c : Int) + 1) = ((c + 1 : Nat) : Int) by omega, show ((i : Int) + 1) = ((i + 1 : Nat) : Int) by omega, ih k (i + 1) (c + 1) (by omega) (by omega) (by omega), if_pos (by simpa [seenB] using g)]
      congr 3
      omega
    · rw [if_neg (show ¬ ((Int.gcd (px - l[i].f0) (py - l[i].f1) : Int) = 1) by omega), ite_self, show ((i : Int) + 1) = ((i + 1 : Nat) : Int) by omega, ih k (i + 1) c (by omega) (by omega) (by omega), if_neg (by simpa [seenB] using g)]
      rfl

theorem isOnBoard_eq (w h x y : Int) (hw : 1 ≤ w ∧ w ≤ 1000) (hh : 1 ≤ h ∧ h ≤ 1000) : impl_isOnBoard.f w h x y = some (decide ((0 ≤ x ∧ x ≤ w - 1) ∧ (0 ≤ y ∧ y ≤ h - 1))) := by
  unfold impl_isOnBoard.f
  rw [w64 (x := w - 1) (by omega) (by omega), w64 (x := h - 1) (by omega) (by omega)]
  simp only [within_eq, Option.bind_some]
  by_cases c : 0 ≤ x ∧ x ≤ w - 1
  · simp [c]
  · simp [c]

/-- A place is one of the board's. -/
def onB (w h x y : Int) : Bool := decide ((0 ≤ x ∧ x ≤ w - 1) ∧ (0 ≤ y ∧ y ≤ h - 1))
/-- How many steps of a way stay on the board, counted up to some number. -/
def runL (w h dx dy : Int) : Nat → Int → Int → Nat
  | 0, _, _ => 0
  | f + 1, x, y => if onB w h x y then runL w h dx dy f (x + dx) (y + dy) + 1 else 0

theorem runL_le (w h dx dy : Int) (f : Nat) : ∀ x y, runL w h dx dy f x y ≤ f := by
  induction f with
  | zero => intro x y; exact Nat.le_refl _
  | succ f ih =>
    intro x y
    rw [runL]
    split
    · have := ih (x + dx) (y + dy)
      omega
    · omega

def sumC (F : S36 → Nat) : List S36 → Nat
  | [] => 0
  | p :: l => F p + sumC F l
theorem sumC_append (F : S36 → Nat) (a b : List S36) : sumC F (a ++ b) = sumC F a + sumC F b := by
  induction a with
  | nil => simp [sumC]
  | cons p l ih => simp only [List.cons_append, sumC, ih]; omega
theorem sumC_le (F : S36 → Nat) (M : Nat) (l : List S36) (h : ∀ p ∈ l, F p ≤ M) : sumC F l ≤ l.length * M := by
  induction l with
  | nil => simp [sumC]
  | cons p l ih =>
    have h1 := ih fun q hq => h q (by simp [hq])
    have h2 := h p (by simp)
    rw [sumC, List.length_cons, Nat.succ_mul]
    omega
theorem room_left (A Ln Sm l' : Nat) (h1 : A + (l' * 1000000 + 1000000) ≤ 1000000000000) (h2 : Ln * 300 ≤ 43200) (h3 : Sm ≤ Ln * 300) : A + Ln * 300 ≤ 1000000000000 ∧ A + Sm + l' * 1000000 ≤ 1000000000000 := by omega

/-- A sum of some numbers from x on. -/
def sumR (F : Nat → Nat) : Nat → Nat → Nat
  | _, 0 => 0
  | x, e + 1 => Nat.add (F x) (sumR F (x + 1) e)
theorem sumR_ext (F G : Nat → Nat) (e : Nat) : ∀ x, (∀ j, x ≤ j → j < x + e → F j = G j) → sumR F x e = sumR G x e := by
  induction e with
  | zero => intro x _; rfl
  | succ e ih => intro x h; rw [sumR, sumR, h x (by omega) (by omega), ih (x + 1) fun j h1 h2 => h j (by omega) (by omega)]
theorem sumR_last (F : Nat → Nat) (e : Nat) : ∀ x, sumR F x (e + 1) = sumR F x e + F (x + e) := by
  induction e with
  | zero => intro x; show F x + 0 = 0 + F (x + 0); simp
  | succ e ih => intro x; rw [sumR, ih (x + 1), sumR]; show F x + _ = F x + _ + _; rw [show x + 1 + e = x + (e + 1) by omega]; omega
theorem sumR_shift (F : Nat → Nat) (e : Nat) : ∀ x, sumR F (x + 1) e = sumR (fun j => F (j + 1)) x e := by
  induction e with
  | zero => intro x; rfl
  | succ e ih => intro x; rw [sumR, sumR, ih (x + 1)]
theorem sumR_turn (F : Nat → Nat) (e : Nat) : sumR (fun j => F (e - 1 - j)) 0 e = sumR F 0 e := by
  induction e with
  | zero => rfl
  | succ e ih =>
    rw [sumR_last F e 0, ← ih, sumR, sumR_shift]
    show F (e + 1 - 1 - 0) + _ = _ + F (0 + e)
    rw [Nat.zero_add, Nat.add_comm]
    congr 1
    exact sumR_ext _ _ e 0 fun j _ hj => by
      show F (e + 1 - 1 - (j + 1)) = F (e - 1 - j)
      congr 1
      omega
theorem sumC_col (F : S36 → Nat) (x : Nat) (d : Nat) : ∀ y, sumC F (colFrom x y d) = sumR (fun j => F ⟨(x : Int), (j : Int)⟩) y d := by
  induction d with
  | zero => intro y; rfl
  | succ d ih => intro y; rw [colFrom_succ, sumC, ih, sumR]; rfl
theorem sumC_rows (F : S36 → Nat) (h : Nat) (e : Nat) : ∀ x, sumC F (rowsFrom h x e) = sumR (fun i => sumR (fun j => F ⟨(i : Int), (j : Int)⟩) 0 h) x e := by
  induction e with
  | zero => intro x; rfl
  | succ e ih => intro x; rw [rowsFrom_succ, sumC_append, sumC_col, ih, sumR]; rfl
def runN (w h dx e : Nat) : Nat → Nat → Nat → Nat
  | 0, _, _ => 0
  | f + 1, x, y => if Nat.blt x w && Nat.blt y h then runN w h dx e f (Nat.add x dx) (Nat.add y e) + 1 else 0
theorem sumR_zero (F : Nat → Nat) (m d : Nat) (hz : ∀ j, m ≤ j → j < m + d → F j = 0) : sumR F 0 (m + d) = sumR F 0 m := by
  induction d with
  | zero => rfl
  | succ d ih => rw [← Nat.add_assoc, sumR_last, ih fun j h1 h2 => hz j h1 (by omega), hz (0 + (m + d)) (by omega) (by omega)]; rfl
theorem sumR_cut (F : Nat → Nat) (n m : Nat) (hm : m ≤ n) (hz : ∀ j, m ≤ j → j < n → F j = 0) : sumR F 0 n = sumR F 0 m := by
  obtain ⟨d, rfl⟩ : ∃ d, n = m + d := ⟨n - m, by omega⟩
  exact sumR_zero F m d hz
theorem sumR_none (F : Nat → Nat) (e : Nat) (x : Nat) (hz : ∀ j, F j = 0) : sumR F x e = 0 := by
  induction e generalizing x with
  | zero => rfl
  | succ e ih => rw [sumR, hz, ih]
theorem run_up (w h dx e : Nat) (f : Nat) : ∀ x y : Nat, runL w h dx e f x y = runN w h dx e f x y := by
  induction f with
  | zero => intro x y; rfl
  | succ f ih =>
    intro x y
    rw [runL, runN]
    by_cases c : x < w ∧ y < h
    · rw [if_pos (by unfold onB; rw [decide_eq_true_eq]; omega), if_pos (by simp [Nat.blt_eq, c])]
      have := ih (x + dx) (y + e)
      rw [Int.natCast_add, Int.natCast_add] at this
      rw [this]
      rfl
    · rw [if_neg (by unfold onB; rw [decide_eq_true_eq]; omega), if_neg (by simp only [Bool.and_eq_true, Nat.blt_eq]; exact c)]
theorem run_down (w h dx e : Nat) (f : Nat) : ∀ x y : Nat, runL w h dx (-(e : Int)) f x ((h : Int) - 1 - y) = runN w h dx e f x y := by
  induction f with
  | zero => intro x y; rfl
  | succ f ih =>
    intro x y
    rw [runL, runN]
    by_cases c : x < w ∧ y < h
    · rw [if_pos (by unfold onB; rw [decide_eq_true_eq]; omega), if_pos (by simp [Nat.blt_eq, c])]
      have := ih (x + dx) (y + e)
      rw [Int.natCast_add, show (h : Int) - 1 - ((y + e : Nat) : Int) = (h : Int) - 1 - y + -(e : Int) by omega] at this
      rw [this]
      rfl
    · rw [if_neg (by unfold onB; rw [decide_eq_true_eq]; omega), if_neg (by simp only [Bool.and_eq_true, Nat.blt_eq]; exact c)]

/-- A list of slopes that lines may be gone along. -/
def slopesGood (o : Option (List S36)) : Bool :=
  match o with
  | none => false
  | some L => decide (L.length ≤ 1000) && L.all fun s => decide ((0 ≤ s.f0 ∧ s.f0 ≤ 12) ∧ (-12 ≤ s.f1 ∧ s.f1 ≤ 12) ∧ (1 ≤ s.f0 ∨ (s.f0 = 0 ∧ 1 ≤ s.f1)))
theorem slopes_ok : ∀ a b : Fin 12, slopesGood (impl_slopes.f 400 ((a.val : Int) + 1) ((b.val : Int) + 1)) = true := by decide +kernel

/-- Numbers of a board as small ones. -/
theorem fins (w h : Int) (c : (1 ≤ w ∧ w ≤ 12) ∧ (1 ≤ h ∧ h ≤ 12)) : ∃ a b : Fin 12, w = (a.val : Int) + 1 ∧ h = (b.val : Int) + 1 :=
  ⟨⟨(w - 1).toNat, by omega⟩, ⟨(h - 1).toNat, by omega⟩, by show w = (((w - 1).toNat : Nat) : Int) + 1; omega, by show h = (((h - 1).toNat : Nat) : Int) + 1; omega⟩

/-- A peg near by. -/
def inB (p : S36) : Prop := (-((100 : Nat) : Int) ≤ p.f0 ∧ p.f0 ≤ ((100 : Nat) : Int)) ∧ (-((100 : Nat) : Int) ≤ p.f1 ∧ p.f1 ≤ ((100 : Nat) : Int))
theorem area_small {a b c : S36} (ha : inB a) (hb : inB b) (hc : inB c) : -100000 ≤ tri a.f0 a.f1 b.f0 b.f1 c.f0 c.f1 ∧ tri a.f0 a.f1 b.f0 b.f1 c.f0 c.f1 ≤ 100000 := by
  unfold inB at ha hb hc
  unfold tri
  have q1 := mul_bd 200 200 (x := b.f0 - a.f0) (y := c.f1 - a.f1) (by omega) (by omega)
  have q2 := mul_bd 200 200 (x := b.f1 - a.f1) (y := c.f0 - a.f0) (by omega) (by omega)
  omega

abbrev visA := Int
def visT (tw : Int) (a b c : S36) (acc : Int) : Int := if ((tri a.f0 a.f1 b.f0 b.f1 c.f0 c.f1).natAbs : Int) = tw then wrap64 (acc + 1) else acc
theorem visT_eq (tw : Int) (a b c : S36) (acc : Int) (ha : inB a) (hb : inB b) (hc : inB c) : impl_CountOfArea_1.f a.f0 a.f1 b.f0 b.f1 c.f0 c.f1 tw acc = some (visT tw a b c acc) := by
  obtain ⟨e1, e2⟩ := area_small ha hb hc
  unfold inB at ha hb hc
  unfold impl_CountOfArea_1.f
  rw [turn_eq 100 (by omega) ha.1 ha.2 hb.1 hb.2 hc.1 hc.2, Option.bind_some, size_eq (by omega), Option.bind_some]
  unfold visT
  split <;> rfl

def T2 (tw : Int) (a b : S36) : List S36 → visA → visA
  | [], acc => acc
  | c :: l, acc => T2 tw a b l (visT tw a b c acc)
def T1 (tw : Int) (L : List S36) (a : S36) : Nat → Nat → visA → visA
  | 0, _, acc => acc
  | d + 1, j, acc => T1 tw L a d (j + 1) (T2 tw a (L.getD j z36) (L.take j) acc)
def T0 (tw : Int) (L : List S36) : Nat → Nat → visA → visA
  | 0, _, acc => acc
  | d + 1, i, acc => T0 tw L d (i + 1) (T1 tw L (L.getD i z36) i 0 acc)

theorem threes_l2 (tw : Int) (L : List S36) (n i : Int) (a b : S36) (ha : inB a) (hb : inB b) (C : List S36) (hC : ∀ p ∈ C, inB p) (hlen : C.length ≤ 100000) (K0 : Nat) (R : visA) (B : List S36) (nB x21 : Int) (d : Nat) :
    ∀ (k j : Nat) (acc : visA), j + d = C.length → K0 + d + 10 ≤ k →
    (∀ k', K0 ≤ k' → impl_threes.l1 k' L L n i B nB (wrap64 (x21 + 1)) (T2 tw a b (C.drop j) acc) tw a.f0 a.f1 = some R) →
    impl_threes.l2 k L L n i B nB x21 C (C.length : Int) (j : Int) acc tw a.f0 a.f1 b.f0 b.f1 = some R := by
  induction d with
  | zero =>
    intro k j acc hj hk hc
    obtain ⟨k, rfl⟩ : ∃ m, k = m + 1 := ⟨k - 1, by omega⟩
    have h1 := hc k (by omega)
    rw [List.drop_of_length_le (by omega)] at h1
    simp only [impl_threes.l2]
    rw [if_neg (by omega)]
    exact h1
  | succ d ih =>
    intro k j acc hj hk hc
    obtain ⟨k, rfl⟩ : ∃ m, k = m + 1 := ⟨k - 1, by omega⟩
    have hlt : j < C.length := by omega
    have hr : rd_T36 C (j : Int) = C[j] := by
      unfold rd_T36
      simp [List.getD_eq_getElem?_getD, List.getElem?_eq_getElem hlt]
    have hp := hC C[j] (List.getElem_mem hlt)
    rw [List.drop_eq_getElem_cons hlt, T2] at hc
    simp only [impl_threes.l2]
    rw [if_pos (by omega), if_pos (by omega), if_pos (by omega), hr]
    rw [visT_eq tw a b C[j] acc ha hb hp, Option.bind_some, w64 (x := (j : Int) + 1) (by omega) (by omega)]
    exact ih k (j + 1) _ (by omega) (by omega) hc
theorem threes_l1 (tw : Int) (L : List S36) (hL : ∀ p ∈ L, inB p) (hlen : L.length ≤ 100000) (n : Int) (i m : Nat) (_hi : i ≤ L.length) (hm : m ≤ L.length) (a : S36) (ha : inB a) (K0 : Nat) (R : visA) (d : Nat) :
    ∀ (k j : Nat) (acc : visA), j + d = m → K0 + d * (L.length + 20) + 1 ≤ k →
    (∀ k', K0 ≤ k' → impl_threes.l0 k' L L n (wrap64 ((i : Int) + 1)) (T1 tw L a d j acc) tw = some R) →
    impl_threes.l1 k L L n (i : Int) (L.take m) ((L.take m).length : Int) (j : Int) acc tw a.f0 a.f1 = some R := by
  have hti : (L.take m).length = m := by rw [List.length_take]; omega
  induction d with
  | zero =>
    intro k j acc hj hk hc
    obtain ⟨k, rfl⟩ : ∃ m, k = m + 1 := ⟨k - 1, by omega⟩
    have h1 := hc k (by omega)
    rw [T1] at h1
    simp only [impl_threes.l1]
    rw [if_neg (by omega)]
    exact h1
  | succ d ih =>
    intro k j acc hj hk hc
    obtain ⟨k, rfl⟩ : ∃ m, k = m + 1 := ⟨k - 1, by omega⟩
    rw [Nat.succ_mul] at hk
    have hr : rd_T36 (L.take m) (j : Int) = L.getD j z36 := by
      unfold rd_T36
      rw [List.getD_eq_getElem?_getD, List.getD_eq_getElem?_getD, List.getElem?_take]
      simp [show j < m by omega]
    have hp : inB (L.getD j z36) := by
      rw [List.getD_eq_getElem?_getD, List.getElem?_eq_getElem (by omega), Option.getD_some]
      exact hL _ (List.getElem_mem _)
    have htj : (L.take j).length = j := by rw [List.length_take]; omega
    rw [T1] at hc
    simp only [impl_threes.l1]
    rw [if_pos (by omega), if_pos (by omega), if_pos (by omega), if_pos (by omega), Option.bind_some, hr, show ((j : Int)).toNat = j from rfl]
    refine threes_l2 tw L _ _ a (L.getD j z36) ha hp (L.take j) (fun p h => hL p (List.mem_of_mem_take h)) (by omega) (K0 + d * (L.length + 20) + 1) R _ _ _ (L.take j).length k 0 acc (by omega) (by omega) fun k' hk' => ?_
    rw [w64 (x := (j : Int) + 1) (by omega) (by omega), List.drop_zero]
    exact ih k' (j + 1) _ (by omega) (by omega) hc
theorem threes_l0 (tw : Int) (L : List S36) (hL : ∀ p ∈ L, inB p) (hlen : L.length ≤ 2000) (d : Nat) : ∀ (k i : Nat) (acc : visA), i + d = L.length → d * 5000000 + 5 ≤ k →
    impl_threes.l0 k L L (L.length : Int) (i : Int) acc tw = some (T0 tw L d i acc) := by
  induction d with
  | zero =>
    intro k i acc hi hk
    obtain ⟨k, rfl⟩ : ∃ m, k = m + 1 := ⟨k - 1, by omega⟩
    simp only [impl_threes.l0]
    rw [if_neg (by omega), T0]
  | succ d ih =>
    intro k i acc hi hk
    obtain ⟨k, rfl⟩ : ∃ m, k = m + 1 := ⟨k - 1, by omega⟩
    have hr : rd_T36 L (i : Int) = L.getD i z36 := by
      unfold rd_T36
      rw [show ((i : Int)).toNat = i from rfl]
    have hp : inB (L.getD i z36) := by
      rw [List.getD_eq_getElem?_getD, List.getElem?_eq_getElem (by omega), Option.getD_some]
      exact hL _ (List.getElem_mem _)
    have hm : i * (L.length + 20) ≤ 2000 * 2020 := Nat.mul_le_mul (by omega) (by omega)
    rw [T0]
    simp only [impl_threes.l0]
    rw [if_pos (by omega), if_pos (by omega), if_pos (by omega), if_pos (by omega), Option.bind_some, hr, show ((i : Int)).toNat = i from rfl]
    have hgo := threes_l1 tw L hL (by omega) (L.length : Int) i i (by omega) (by omega) (L.getD i z36) hp (d * 5000000 + 5) (T0 tw L d (i + 1) (T1 tw L (L.getD i z36) i 0 acc)) i k 0 acc (by omega) (by omega) fun k' hk' => by
      rw [w64 (x := (i : Int) + 1) (by omega) (by omega)]
      exact ih k' (i + 1) _ (by omega) hk'

    exact hgo

theorem areaS_l2 (tw : Int) (L : List S36) (n i : Int) (a b : S36) (ha : inB a) (hb : inB b) (C : List S36) (hC : ∀ p ∈ C, inB p) (hlen : C.length ≤ 100000) (K0 : Nat) (R : Int × Bool) (B : List S36) (nB x21 : Int) (d : Nat) :
    ∀ (k j : Nat) (acc : visA), j + d = C.length → K0 + d + 10 ≤ k →
    (∀ k', K0 ≤ k' → spec_CountOfArea.l1 k' tw (T2 tw a b (C.drop j) acc) L L n i B nB (wrap64 (x21 + 1)) a.f0 a.f1 = some R) →
    spec_CountOfArea.l2 k tw acc L L n i B nB x21 C (C.length : Int) (j : Int) a.f0 a.f1 b.f0 b.f1 = some R := by
  induction d with
  | zero =>
    intro k j acc hj hk hc
    obtain ⟨k, rfl⟩ : ∃ m, k = m + 1 := ⟨k - 1, by omega⟩
    have h1 := hc k (by omega)
    rw [List.drop_of_length_le (by omega)] at h1
    simp only [spec_CountOfArea.l2]
    rw [if_neg (by omega)]
    exact h1
  | succ d ih =>
    intro k j acc hj hk hc
    obtain ⟨k, rfl⟩ : ∃ m, k = m + 1 := ⟨k - 1, by omega⟩
    have hlt : j < C.length := by omega
    have hr : rd_T36 C (j : Int) = C[j] := by
      unfold rd_T36
      simp [List.getD_eq_getElem?_getD, List.getElem?_eq_getElem hlt]
    have hp := hC C[j] (List.getElem_mem hlt)
    rw [List.drop_eq_getElem_cons hlt, T2] at hc
    simp only [spec_CountOfArea.l2]
    rw [if_pos (by omega), if_pos (by omega), if_pos (by omega), hr]
    obtain ⟨e1, e2⟩ := area_small ha hb hp
    unfold inB at ha hb hp
    rw [pgTurn_eq 100 (by omega) ha.1 ha.2 hb.1 hb.2 hp.1 hp.2, Option.bind_some, l1Abs_eq (by omega), Option.bind_some, w64 (x := (j : Int) + 1) (by omega) (by omega)]
    have e3 : visT tw a b C[j] acc = if ((tri a.f0 a.f1 b.f0 b.f1 C[j].f0 C[j].f1).natAbs : Int) = tw then wrap64 (acc + 1) else acc := rfl
    rw [e3] at hc
    by_cases g : ((tri a.f0 a.f1 b.f0 b.f1 C[j].f0 C[j].f1).natAbs : Int) = tw
    · rw [if_pos g] at hc ⊢
      exact ih k (j + 1) _ (by omega) (by omega) hc
    · rw [if_neg g] at hc ⊢
      exact ih k (j + 1) _ (by omega) (by omega) hc
theorem areaS_l1 (tw : Int) (L : List S36) (hL : ∀ p ∈ L, inB p) (hlen : L.length ≤ 100000) (n : Int) (i m : Nat) (_hi : i ≤ L.length) (hm : m ≤ L.length) (a : S36) (ha : inB a) (K0 : Nat) (R : Int × Bool) (d : Nat) :
    ∀ (k j : Nat) (acc : visA), j + d = m → K0 + d * (L.length + 20) + 1 ≤ k →
    (∀ k', K0 ≤ k' → spec_CountOfArea.l0 k' tw (T1 tw L a d j acc) L L n (wrap64 ((i : Int) + 1)) = some R) →
    spec_CountOfArea.l1 k tw acc L L n (i : Int) (L.take m) ((L.take m).length : Int) (j : Int) a.f0 a.f1 = some R := by
  have hti : (L.take m).length = m := by rw [List.length_take]; omega
  induction d with
  | zero =>
    intro k j acc hj hk hc
    obtain ⟨k, rfl⟩ : ∃ m, k = m + 1 := ⟨k - 1, by omega⟩
    have h1 := hc k (by omega)
    rw [T1] at h1
    simp only [spec_CountOfArea.l1]
    rw [if_neg (by omega)]
    exact h1
  | succ d ih =>
    intro k j acc hj hk hc
    obtain ⟨k, rfl⟩ : ∃ m, k = m + 1 := ⟨k - 1, by omega⟩
    rw [Nat.succ_mul] at hk
    have hr : rd_T36 (L.take m) (j : Int) = L.getD j z36 := by
      unfold rd_T36
      rw [List.getD_eq_getElem?_getD, List.getD_eq_getElem?_getD, List.getElem?_take]
      simp [show j < m by omega]
    have hp : inB (L.getD j z36) := by
      rw [List.getD_eq_getElem?_getD, List.getElem?_eq_getElem (by omega), Option.getD_some]
      exact hL _ (List.getElem_mem _)
    have htj : (L.take j).length = j := by rw [List.length_take]; omega
    rw [T1] at hc
    simp only [spec_CountOfArea.l1]
    rw [if_pos (by omega), if_pos (by omega), if_pos (by omega), if_pos (by omega), Option.bind_some, hr, show ((j : Int)).toNat = j from rfl]
    refine areaS_l2 tw L _ _ a (L.getD j z36) ha hp (L.take j) (fun p h => hL p (List.mem_of_mem_take h)) (by omega) (K0 + d * (L.length + 20) + 1) R _ _ _ (L.take j).length k 0 acc (by omega) (by omega) fun k' hk' => ?_
    rw [w64 (x := (j : Int) + 1) (by omega) (by omega), List.drop_zero]
    exact ih k' (j + 1) _ (by omega) (by omega) hc
theorem areaS_l0 (tw : Int) (L : List S36) (hL : ∀ p ∈ L, inB p) (hlen : L.length ≤ 2000) (d : Nat) : ∀ (k i : Nat) (acc : visA), i + d = L.length → d * 5000000 + 5 ≤ k →
    spec_CountOfArea.l0 k tw acc L L (L.length : Int) (i : Int) = some ((T0 tw L d i acc), true) := by
  induction d with
  | zero =>
    intro k i acc hi hk
    obtain ⟨k, rfl⟩ : ∃ m, k = m + 1 := ⟨k - 1, by omega⟩
    simp only [spec_CountOfArea.l0]
    rw [if_neg (by omega), T0]
  | succ d ih =>
    intro k i acc hi hk
    obtain ⟨k, rfl⟩ : ∃ m, k = m + 1 := ⟨k - 1, by omega⟩
    have hr : rd_T36 L (i : Int) = L.getD i z36 := by
      unfold rd_T36
      rw [show ((i : Int)).toNat = i from rfl]
    have hp : inB (L.getD i z36) := by
      rw [List.getD_eq_getElem?_getD, List.getElem?_eq_getElem (by omega), Option.getD_some]
      exact hL _ (List.getElem_mem _)
    have hm : i * (L.length + 20) ≤ 2000 * 2020 := Nat.mul_le_mul (by omega) (by omega)
    rw [T0]
    simp only [spec_CountOfArea.l0]
    rw [if_pos (by omega), if_pos (by omega), if_pos (by omega), if_pos (by omega), Option.bind_some, hr, show ((i : Int)).toNat = i from rfl]
    have hgo := areaS_l1 tw L hL (by omega) (L.length : Int) i i (by omega) (by omega) (L.getD i z36) hp (d * 5000000 + 5) ((T0 tw L d (i + 1) (T1 tw L (L.getD i z36) i 0 acc)), true) i k 0 acc (by omega) (by omega) fun k' hk' => by
      rw [w64 (x := (i : Int) + 1) (by omega) (by omega)]
      exact ih k' (i + 1) _ (by omega) hk'

    exact hgo

theorem ctBoardM (w h m : Int) (_hm : 0 ≤ m ∧ m ≤ 100) : spec_ctBoard.f w h m = some (decide ((1 ≤ w ∧ w ≤ m) ∧ (1 ≤ h ∧ h ≤ m))) := by
  unfold spec_ctBoard.f
  simp only [in_eq, Option.bind_some]
  by_cases c : 1 ≤ w ∧ w ≤ m
  · simp [c]
  · simp [c]
theorem isBoardM (w h m : Int) (_hm : 0 ≤ m ∧ m ≤ 100) : impl_isBoard.f w h m = some (decide ((1 ≤ w ∧ w ≤ m) ∧ (1 ≤ h ∧ h ≤ m))) := by
  unfold impl_isBoard.f
  simp only [within_eq, Option.bind_some]
  by_cases c : 1 ≤ w ∧ w ≤ m
  · simp [c]
  · simp [c]

/-- n over 3, as the program's loop comes to it. -/
def choose3 (n : Int) : Int := wrap64 (Int.tdiv (wrap64 (wrap64 (Int.tdiv (wrap64 (wrap64 (Int.tdiv (wrap64 (1 * wrap64 (n - 0))) 1) * wrap64 (n - 1))) 2) * wrap64 (n - 2))) 3)
def visF_0 (_w _h acc n : Int) : Int := wrap64 (acc + choose3 n)
/-- What a line of n pegs adds. -/
def cF_0 (_w _h n : Nat) : Nat := n * (n - 1) * (n - 2) / 6
theorem cF_small_0 : ∀ n : Fin 14, choose3 (n.val : Int) = ((cF_0 0 0 n.val : Nat) : Int) ∧ cF_0 0 0 n.val ≤ 300 := by decide +kernel
theorem cF_le_0 (w h n : Nat) (hn : n ≤ 13) : cF_0 w h n ≤ 300 := (cF_small_0 ⟨n, by omega⟩).2
theorem vis_nat_0 (w h acc n : Nat) (hn : n ≤ 13) (ha : acc ≤ 1000000000000) : visF_0 w h acc n = ((acc + cF_0 w h n : Nat) : Int) := by
  unfold visF_0
  have h1 : choose3 (n : Int) = ((cF_0 w h n : Nat) : Int) := (cF_small_0 ⟨n, by omega⟩).1
  have h2 := cF_le_0 w h n hn
  rw [h1, w64 (by omega) (by omega)]
  omega
theorem choose3_eq (k : Nat) (n : Int) (hk : 4 ≤ k) : impl_choose.f k n 3 = some (choose3 n) := by
  obtain ⟨k, rfl⟩ : ∃ m, k = m + 4 := ⟨k - 4, by omega⟩
  unfold impl_choose.f
  rw [impl_choose.l0, if_pos (by decide), show wrap64 (0 + 1) = 1 by unfold wrap64; omega, if_neg (by decide)]
  rw [impl_choose.l0, if_pos (by decide), show wrap64 (1 + 1) = 2 by unfold wrap64; omega, if_neg (by decide)]
  rw [impl_choose.l0, if_pos (by decide), show wrap64 (2 + 1) = 3 by unfold wrap64; omega, if_neg (by decide)]
  rw [impl_choose.l0, if_neg (by decide)]
  rfl
theorem visit_eq_0 (w h : Int) (k : Nat) (n acc : Int) (hk : 4 ≤ k) : impl_inLine_1.f k n acc = some (visF_0 w h acc n) := by
  unfold impl_inLine_1.f
  rw [choose3_eq k n hk, Option.bind_some]
  rfl

/-- What a peg adds: nothing if a line does not begin there. -/
def lineStep_0 (w h dx dy : Int) (acc : Int) (p : S36) : Int :=
  if onB w h (p.f0 - dx) (p.f1 - dy) then acc
  else if runL w h dx dy 12 p.f0 p.f1 > 1 then visF_0 w h acc (runL w h dx dy 12 p.f0 p.f1 : Nat) else acc
theorem straight_l2_0 (W H : Int) (hW : 1 ≤ W ∧ W ≤ 12) (hH : 1 ≤ H ∧ H ≤ 12) (dx dy : Int) (hdx : 0 ≤ dx ∧ dx ≤ 12) (hdy : -12 ≤ dy ∧ dy ≤ 12) (K0 : Nat) (L B : List S36) (x14 x15 x22 x23 acc : Int) (R : Int) (f : Nat) :
    ∀ (k n : Nat) (x y : Int), ((1 ≤ dx ∧ W - x ≤ f) ∨ (dx = 0 ∧ 1 ≤ dy ∧ H - y ≤ f)) → n + f ≤ 1000 → K0 + f + 10 ≤ k →
    (∀ k', K0 ≤ k' → impl_straight.l1 k' W H L x14 x15 B x22 (wrap64 (x23 + 1)) (if n + runL W H dx dy f x y > 1 then visF_0 W H acc ((n + runL W H dx dy f x y : Nat) : Int) else acc)  dx dy = some R) →
    impl_straight.l2 k W H (n : Int) L x14 x15 B x22 x23 acc  dx dy x y = some R := by
  have off : ∀ (k n : Nat) (x y : Int), ¬ ((0 ≤ x ∧ x ≤ W - 1) ∧ (0 ≤ y ∧ y ≤ H - 1)) → K0 + 8 ≤ k → (∀ k', K0 ≤ k' → impl_straight.l1 k' W H L x14 x15 B x22 (wrap64 (x23 + 1)) (if n > 1 then visF_0 W H acc (n : Int) else acc)  dx dy = some R) →
      impl_straight.l2 k W H (n : Int) L x14 x15 B x22 x23 acc  dx dy x y = some R := by
    intro k n x y hoff hk hc
    obtain ⟨k, rfl⟩ : ∃ m, k = m + 1 := ⟨k - 1, by omega⟩
    rw [impl_straight.l2, isOnBoard_eq W H x y (by omega) (by omega), Option.bind_some, decide_eq_false hoff, if_neg (by decide)]
    have h1 := hc k (by omega)
    by_cases g : n > 1
    · rw [if_pos g] at h1
      rw [if_pos (show (n : Int) > 1 by omega)]
      first
      | (rw [visit_eq_0 W H _ _ _ (by omega), Option.bind_some]; exact h1)
      | (rw [visit_eq_0 W H, Option.bind_some]; exact h1)
    · rw [if_neg g] at h1
      rw [if_neg (show ¬ (n : Int) > 1 by omega)]
      exact h1
  induction f with
  | zero =>
    intro k n x y hf hn hk hc
    exact off k n x y (by omega) (by omega) (fun k' h => by simpa [runL] using hc k' h)
  | succ f ih =>
    intro k n x y hf hn hk hc
    by_cases c : (0 ≤ x ∧ x ≤ W - 1) ∧ (0 ≤ y ∧ y ≤ H - 1)
    · obtain ⟨k, rfl⟩ : ∃ m, k = m + 1 := ⟨k - 1, by omega⟩
      have hr : runL W H dx dy (f + 1) x y = runL W H dx dy f (x + dx) (y + dy) + 1 := by
        rw [runL, if_pos]
        unfold onB
        exact decide_eq_true c
      rw [hr] at hc
      rw [impl_straight.l2, isOnBoard_eq W H x y (by omega) (by omega), Option.bind_some, decide_eq_true c, if_pos rfl]
      unfold impl_Peg_plus.f
      rw [Option.bind_some, w64 (x := x + dx) (by omega) (by omega), w64 (x := y + dy) (by omega) (by omega), w64 (x := (n : Int) + 1) (by omega) (by omega)]
      have := ih k (n + 1) (x + dx) (y + dy) (by omega) (by omega) (by omega) (fun k' h => by
        have := hc k' h
        rw [show n + (runL W H dx dy f (x + dx) (y + dy) + 1) = n + 1 + runL W H dx dy f (x + dx) (y + dy) by omega] at this
        exact this)
      exact this
    · have hr : runL W H dx dy (f + 1) x y = 0 := by
        rw [runL, if_neg]
        unfold onB
        rw [decide_eq_false c]
        decide
      rw [hr] at hc
      exact off k n x y c (by omega) hc
theorem straight_l1_0 (W H : Int) (hW : 1 ≤ W ∧ W ≤ 12) (hH : 1 ≤ H ∧ H ≤ 12) (dx dy : Int) (hdx : 0 ≤ dx ∧ dx ≤ 12) (hdy : -12 ≤ dy ∧ dy ≤ 12) (hd : 1 ≤ dx ∨ (dx = 0 ∧ 1 ≤ dy)) (K0 : Nat) (L B : List S36) (hB : B.length ≤ 1000) (hb : ∀ p ∈ B, (0 ≤ p.f0 ∧ p.f0 < 12) ∧ (0 ≤ p.f1 ∧ p.f1 < 12)) (x14 x15 : Int) (R : Int) (d : Nat) :
    ∀ (k i : Nat) (acc : Int), i + d = B.length → K0 + d * 30 + 1 ≤ k →
    (∀ k', K0 ≤ k' → impl_straight.l0 k' W H L x14 (wrap64 (x15 + 1)) ((B.drop i).foldl (lineStep_0 W H dx dy) acc)  = some R) →
    impl_straight.l1 k W H L x14 x15 B (B.length : Int) (i : Int) acc  dx dy = some R := by
  induction d with
  | zero =>
    intro k i acc hi hk hc
    obtain ⟨k, rfl⟩ : ∃ m, k = m + 1 := ⟨k - 1, by omega⟩
    have h1 := hc k (by omega)
    rw [List.drop_of_length_le (by omega), List.foldl_nil] at h1
    rw [impl_straight.l1, if_neg (by omega)]
    exact h1
  | succ d ih =>
    intro k i acc hi hk hc
    obtain ⟨k, rfl⟩ : ∃ m, k = m + 1 := ⟨k - 1, by omega⟩
    have hlt : i < B.length := by omega
    have hr : rd_T36 B (i : Int) = B[i] := by
      unfold rd_T36
      simp [List.getD_eq_getElem?_getD, List.getElem?_eq_getElem hlt]
    obtain ⟨hp0, hp1⟩ := hb B[i] (List.getElem_mem hlt)
    rw [List.drop_eq_getElem_cons hlt, List.foldl_cons] at hc
    rw [impl_straight.l1, if_pos (by omega), if_pos (by omega), if_pos (by omega), hr]
    unfold impl_Peg_less.f
    rw [Option.bind_some, w64 (x := B[i].f0 - dx) (by omega) (by omega), w64 (x := B[i].f1 - dy) (by omega) (by omega), isOnBoard_eq W H _ _ (by omega) (by omega), Option.bind_some]
    have hs : lineStep_0 W H dx dy acc B[i] = if onB W H (B[i].f0 - dx) (B[i].f1 - dy) then acc else if runL W H dx dy 12 B[i].f0 B[i].f1 > 1 then visF_0 W H acc (runL W H dx dy 12 B[i].f0 B[i].f1 : Nat) else acc := rfl
    rw [hs] at hc
    unfold onB at hc
    by_cases c : (0 ≤ B[i].f0 - dx ∧ B[i].f0 - dx ≤ W - 1) ∧ (0 ≤ B[i].f1 - dy ∧ B[i].f1 - dy ≤ H - 1)
    · rw [decide_eq_true c, if_pos rfl] at hc
      rw [decide_eq_true c, if_pos rfl, w64 (x := (i : Int) + 1) (by omega) (by omega)]
      exact ih k (i + 1) acc (by omega) (by omega) hc
    · rw [decide_eq_false c, if_neg (by decide)] at hc
      rw [decide_eq_false c, if_neg (by decide)]
      refine straight_l2_0 W H hW hH dx dy hdx hdy (K0 + d * 30 + 1) L B x14 x15 _ _ acc R 12 k 0 _ _ (by omega) (by omega) (by omega) fun k' hk' => ?_
      rw [Nat.zero_add, w64 (x := (i : Int) + 1) (by omega) (by omega)]
      exact ih k' (i + 1) _ (by omega) (by omega) hc
/-- What all lines of some slopes come to. -/
def straightL_0 (w h : Nat) (L : List S36) (acc : Int) : Int := L.foldl (fun a s => (rowsFrom h 0 w).foldl (lineStep_0 (w : Int) (h : Int) s.f0 s.f1) a) acc
theorem straight_l0_0 (w h : Nat) (hw : 1 ≤ w ∧ w ≤ 12) (hh : 1 ≤ h ∧ h ≤ 12) (L : List S36) (hL : L.length ≤ 1000) (hs : ∀ s ∈ L, (0 ≤ s.f0 ∧ s.f0 ≤ 12) ∧ (-12 ≤ s.f1 ∧ s.f1 ≤ 12) ∧ (1 ≤ s.f0 ∨ (s.f0 = 0 ∧ 1 ≤ s.f1))) (d : Nat) :
    ∀ (k i : Nat) (acc : Int), i + d = L.length → d * 20000 + 20000 ≤ k →
    impl_straight.l0 k (w : Int) (h : Int) L (L.length : Int) (i : Int) acc  = some (straightL_0 w h (L.drop i) acc) := by
  have hlen := rowsFrom_length h 0 w
  have hm : w * h ≤ 12 * 12 := Nat.mul_le_mul (by omega) (by omega)
  induction d with
  | zero =>
    intro k i acc hi hk
    obtain ⟨k, rfl⟩ : ∃ m, k = m + 1 := ⟨k - 1, by omega⟩
    rw [impl_straight.l0, if_neg (by omega), List.drop_of_length_le (by omega)]
    rfl
  | succ d ih =>
    intro k i acc hi hk
    obtain ⟨k, rfl⟩ : ∃ m, k = m + 1 := ⟨k - 1, by omega⟩
    have hlt : i < L.length := by omega
    have hr : rd_T36 L (i : Int) = L[i] := by
      unfold rd_T36
      simp [List.getD_eq_getElem?_getD, List.getElem?_eq_getElem hlt]
    obtain ⟨h0, h1, h2⟩ := hs L[i] (List.getElem_mem hlt)
    rw [impl_straight.l0, if_pos (by omega), if_pos (by omega), if_pos (by omega), hr, board_eq k w h (by omega) (by omega) (by omega), Option.bind_some, List.drop_eq_getElem_cons hlt]
    refine straight_l1_0 w h (by omega) (by omega) L[i].f0 L[i].f1 h0 h1 h2 (d * 20000 + 20000) L (rowsFrom h 0 w) (by omega) (fun p hp => ?_) _ _ _ (rowsFrom h 0 w).length k 0 acc (by omega) (by omega) fun k' hk' => ?_
    · have := rows_bound h 0 w 12 (by omega) (by omega) p hp
      omega
    · rw [w64 (x := (i : Int) + 1) (by omega) (by omega), List.drop_zero]
      have := ih k' (i + 1) ((rowsFrom h 0 w).foldl (lineStep_0 (w : Int) (h : Int) L[i].f0 L[i].f1) acc) (by omega) hk'
      exact this

def lineC_0 (w h : Nat) (dx dy : Int) (p : S36) : Nat :=
  if onB w h (p.f0 - dx) (p.f1 - dy) then 0
  else if runL w h dx dy 12 p.f0 p.f1 > 1 then cF_0 w h (runL w h dx dy 12 p.f0 p.f1) else 0
theorem lineC_le_0 (w h : Nat) (dx dy : Int) (p : S36) : lineC_0 w h dx dy p ≤ 300 := by
  unfold lineC_0
  split
  · omega
  · split
    · exact cF_le_0 _ _ _ (Nat.le_trans (runL_le _ _ _ _ _ _ _) (by omega))
    · omega
theorem lineStep_nat_0 (w h : Nat) (dx dy : Int) (acc : Nat) (p : S36) (ha : acc ≤ 1000000000000) : lineStep_0 w h dx dy (acc : Int) p = ((acc + lineC_0 w h dx dy p : Nat) : Int) := by
  unfold lineStep_0 lineC_0
  by_cases c : onB w h (p.f0 - dx) (p.f1 - dy) = true
  · rw [if_pos c, if_pos c]; rfl
  · rw [if_neg c, if_neg c]
    by_cases g : runL w h dx dy 12 p.f0 p.f1 > 1
    · rw [if_pos g, if_pos g]
      exact vis_nat_0 _ _ _ _ (Nat.le_trans (runL_le _ _ _ _ _ _ _) (by omega)) ha
    · rw [if_neg g, if_neg g]; rfl
theorem line_fold_0 (w h : Nat) (dx dy : Int) (B : List S36) : ∀ acc : Nat, acc + B.length * 300 ≤ 1000000000000 → B.foldl (lineStep_0 w h dx dy) (acc : Int) = ((acc + sumC (lineC_0 w h dx dy) B : Nat) : Int) := by
  induction B with
  | nil => intro acc _; rfl
  | cons p l ih =>
    intro acc ha
    rw [List.length_cons, Nat.succ_mul] at ha
    have := lineC_le_0 w h dx dy p
    rw [List.foldl_cons, lineStep_nat_0 w h dx dy acc p (by omega), ih _ (by omega), sumC, Nat.add_assoc]
theorem straight_sum_0 (w h : Nat) (hm : w * h ≤ 144) (L : List S36) : ∀ acc : Nat, acc + L.length * 1000000 ≤ 1000000000000 → straightL_0 w h L (acc : Int) = ((acc + sumC (fun s => sumC (lineC_0 w h s.f0 s.f1) (rowsFrom h 0 w)) L : Nat) : Int) := by
  induction L with
  | nil => intro acc _; rfl
  | cons s l ih =>
    intro acc ha
    rw [List.length_cons, Nat.succ_mul] at ha
    have hlen := rowsFrom_length h 0 w
    have h1 := sumC_le (lineC_0 w h s.f0 s.f1) 300 (rowsFrom h 0 w) (fun p _ => lineC_le_0 _ _ _ _ _)
    have h2 : (rowsFrom h 0 w).length * 300 ≤ 43200 := Nat.mul_le_mul_right 300 (show (rowsFrom h 0 w).length ≤ 144 by rw [hlen]; exact hm)
    obtain ⟨h4, h5⟩ := room_left acc _ _ _ ha h2 h1
    have h3 : straightL_0 w h (s :: l) (acc : Int) = straightL_0 w h l ((rowsFrom h 0 w).foldl (lineStep_0 (w : Int) (h : Int) s.f0 s.f1) (acc : Int)) := rfl
    rw [h3, line_fold_0 w h s.f0 s.f1 (rowsFrom h 0 w) acc h4, ih _ h5, sumC, Nat.add_assoc]

def cellN_0 (w h dx e x y : Nat) : Nat :=
  if Nat.blt x dx || Nat.blt y e then (if Nat.ble 2 (runN w h dx e 12 x y) then cF_0 w h (runN w h dx e 12 x y) else 0) else 0
def slopeN_0 (w h dx e : Nat) : Nat := sumR (fun x => sumR (fun y => cellN_0 w h dx e x y) 0 (Nat.sub h e)) 0 (Nat.sub w dx)
theorem cell_out_0 (w h dx e x y : Nat) (ho : w ≤ x + dx ∨ h ≤ y + e) : cellN_0 w h dx e x y = 0 := by
  have h1 : runN w h dx e 12 x y ≤ 1 := by
    rw [runN]
    split
    · rw [runN, if_neg]
      · omega
      · simp only [Bool.and_eq_true, Nat.blt_eq]
        rintro ⟨e1, e2⟩
        have e1' : x + dx < w := e1
        have e2' : y + e < h := e2
        omega
    · omega
  unfold cellN_0
  rw [if_neg (show ¬ Nat.ble 2 _ = true by rw [Nat.ble_eq]; omega), ite_self]
theorem slopeN_all_0 (w h dx e : Nat) : sumR (fun x => sumR (fun y => cellN_0 w h dx e x y) 0 h) 0 w = slopeN_0 w h dx e := by
  unfold slopeN_0
  rw [sumR_cut _ w (Nat.sub w dx) (Nat.sub_le _ _) fun x h1 _ => sumR_none _ _ _ fun y => cell_out_0 w h dx e x y (.inl (by have h2 : w - dx ≤ x := h1; omega))]
  refine sumR_ext _ _ _ 0 fun x _ _ => ?_
  exact sumR_cut _ h (Nat.sub h e) (Nat.sub_le _ _) fun y h1 _ => cell_out_0 w h dx e x y (.inr (by have h2 : h - e ≤ y := h1; omega))
theorem cell_same_0 (w h a b : Nat) (r n : Nat) (x y : Nat) (O : Bool) (hO : O = true ↔ ¬ (x < a ∨ y < b)) (hr : r = n) : (if O = true then 0 else if r > 1 then cF_0 w h r else 0) = (if (Nat.blt x a || Nat.blt y b) = true then (if Nat.ble 2 n = true then cF_0 w h n else 0) else 0) := by
  subst hr
  have e1 : ((Nat.blt x a || Nat.blt y b) = true) ↔ (x < a ∨ y < b) := by rw [Bool.or_eq_true, Nat.blt_eq, Nat.blt_eq]
  have e2 : (Nat.ble 2 r = true) ↔ r > 1 := by rw [Nat.ble_eq]; omega
  by_cases c : x < a ∨ y < b
  · have n1 : ¬ O = true := fun e => hO.1 e c
    by_cases g : r > 1
    · simp only [n1, e1.2 c, e2.2 g, g, if_true, if_false, Bool.false_eq_true]
    · simp only [n1, e1.2 c, g, show ¬ Nat.ble 2 r = true from fun q => g (e2.1 q), if_true, if_false, Bool.false_eq_true]
  · have n2 : ¬ (Nat.blt x a || Nat.blt y b) = true := fun e => c (e1.1 e)
    simp only [hO.2 c, n2, if_true, if_false, Bool.false_eq_true]
theorem slope_eq_0 (w h : Nat) (dx dy : Int) (hdx : 0 ≤ dx) : sumC (lineC_0 w h dx dy) (rowsFrom h 0 w) = slopeN_0 w h dx.toNat dy.natAbs := by
  rw [sumC_rows, ← slopeN_all_0]
  obtain ⟨a, rfl⟩ : ∃ a : Nat, dx = a := ⟨dx.toNat, by omega⟩
  refine sumR_ext _ _ w 0 fun x _ hx => ?_
  rw [show (a : Int).toNat = a from rfl]
  by_cases s : 0 ≤ dy
  · obtain ⟨b, rfl⟩ : ∃ b : Nat, dy = b := ⟨dy.toNat, by omega⟩
    rw [show (b : Int).natAbs = b from rfl]
    refine sumR_ext _ _ h 0 fun y _ hy => ?_
    unfold lineC_0 cellN_0
    exact cell_same_0 w h a b _ _ x y _ (by unfold onB; rw [decide_eq_true_eq]; show (_ ∧ _) ∧ (_ ∧ _) ↔ _; dsimp only; omega) (run_up w h a b 12 x y)
  · obtain ⟨b, rfl⟩ : ∃ b : Nat, dy = -(b : Int) := ⟨dy.natAbs, by omega⟩
    rw [show (-(b : Int)).natAbs = b by omega]
    rw [← sumR_turn (fun y => cellN_0 w h a b x y) h]
    refine sumR_ext _ _ h 0 fun y _ hy => ?_
    unfold lineC_0 cellN_0
    have := run_down w h a b 12 x (h - 1 - y)
    rw [show (h : Int) - 1 - ((h - 1 - y : Nat) : Int) = y by omega] at this
    exact cell_same_0 w h a b _ _ x (h - 1 - y) _ (by unfold onB; rw [decide_eq_true_eq]; dsimp only; omega) this

/-- The sum over all slopes of a list. -/
def totalN_0 (w h : Nat) : List S36 → Nat
  | [] => 0
  | s :: l => Nat.add (slopeN_0 w h s.f0.toNat s.f1.natAbs) (totalN_0 w h l)
theorem total_eq_0 (w h : Nat) (L : List S36) (hs : ∀ s ∈ L, 0 ≤ s.f0) : sumC (fun s => sumC (lineC_0 w h s.f0 s.f1) (rowsFrom h 0 w)) L = totalN_0 w h L := by
  induction L with
  | nil => rfl
  | cons s l ih => rw [sumC, totalN_0, slope_eq_0 w h s.f0 s.f1 (hs s (by simp)), ih fun q hq => hs q (by simp [hq])]; rfl
def totalB_0 (a b : Nat) : Nat := totalN_0 (a + 1) (b + 1) ((impl_slopes.f 400 ((a : Int) + 1) ((b : Int) + 1)).getD [])
theorem straight_eq_0 (k : Nat) (a b : Fin 12) (hk : 21000000 ≤ k) : impl_straight.f k ((a.val : Int) + 1) ((b.val : Int) + 1) 0  = some ((totalB_0 a.val b.val : Nat) : Int) := by
  have h := slopes_ok a b
  cases hL : impl_slopes.f 400 ((a.val : Int) + 1) ((b.val : Int) + 1) with
  | none => rw [hL] at h; exact absurd h (by decide)
  | some L =>
    rw [hL] at h
    unfold slopesGood at h
    simp only [Bool.and_eq_true, decide_eq_true_eq, List.all_eq_true] at h
    unfold impl_straight.f totalB_0
    rw [at_rounds (g := fun k => impl_slopes.f k _ _) (impl_slopes.mono _ _) (show 400 ≤ k by omega) hL]
    rw [hL, Option.bind_some, Option.getD_some]
    have h1 := straight_l0_0 (a.val + 1) (b.val + 1) (by omega) (by omega) L h.1 h.2 L.length k 0 0 (by omega) (by omega)
    rw [List.drop_zero] at h1
    have hm : (a.val + 1) * (b.val + 1) ≤ 12 * 12 := Nat.mul_le_mul (by omega) (by omega)
    have h2 := straight_sum_0 (a.val + 1) (b.val + 1) (by omega) L 0 (by omega)
    rw [Nat.zero_add, total_eq_0 _ _ L fun s hs => (h.2 s hs).1.1] at h2
    exact h1.trans (congrArg some h2)

def visF_1 (_w _h acc _n : Int) : Int := wrap64 (acc + 1)
/-- What a line of n pegs adds. -/
def cF_1 (_w _h _n : Nat) : Nat := 1
theorem visit_eq_1 (w h n acc : Int) : impl_CountStraight_1.f n acc = some (visF_1 w h acc n) := rfl
theorem cF_le_1 (w h n : Nat) (_hn : n ≤ 13) : cF_1 w h n ≤ 300 := by unfold cF_1; omega
theorem vis_nat_1 (w h acc n : Nat) (_hn : n ≤ 13) (ha : acc ≤ 1000000000000) : visF_1 w h acc n = ((acc + cF_1 w h n : Nat) : Int) := by
  unfold visF_1 cF_1
  rw [w64 (by omega) (by omega)]
  rfl

/-- What a peg adds: nothing if a line does not begin there. -/
def lineStep_1 (w h dx dy : Int) (acc : Int) (p : S36) : Int :=
  if onB w h (p.f0 - dx) (p.f1 - dy) then acc
  else if runL w h dx dy 12 p.f0 p.f1 > 1 then visF_1 w h acc (runL w h dx dy 12 p.f0 p.f1 : Nat) else acc
theorem straight_l2_1 (W H : Int) (hW : 1 ≤ W ∧ W ≤ 12) (hH : 1 ≤ H ∧ H ≤ 12) (dx dy : Int) (hdx : 0 ≤ dx ∧ dx ≤ 12) (hdy : -12 ≤ dy ∧ dy ≤ 12) (K0 : Nat) (L B : List S36) (x14 x15 x22 x23 acc : Int) (R : Int) (f : Nat) :
    ∀ (k n : Nat) (x y : Int), ((1 ≤ dx ∧ W - x ≤ f) ∨ (dx = 0 ∧ 1 ≤ dy ∧ H - y ≤ f)) → n + f ≤ 1000 → K0 + f + 10 ≤ k →
    (∀ k', K0 ≤ k' → impl_straight_c1.l1 k' W H L x14 x15 B x22 (wrap64 (x23 + 1)) (if n + runL W H dx dy f x y > 1 then visF_1 W H acc ((n + runL W H dx dy f x y : Nat) : Int) else acc)  dx dy = some R) →
    impl_straight_c1.l2 k W H (n : Int) L x14 x15 B x22 x23 acc  dx dy x y = some R := by
  have off : ∀ (k n : Nat) (x y : Int), ¬ ((0 ≤ x ∧ x ≤ W - 1) ∧ (0 ≤ y ∧ y ≤ H - 1)) → K0 + 8 ≤ k → (∀ k', K0 ≤ k' → impl_straight_c1.l1 k' W H L x14 x15 B x22 (wrap64 (x23 + 1)) (if n > 1 then visF_1 W H acc (n : Int) else acc)  dx dy = some R) →
      impl_straight_c1.l2 k W H (n : Int) L x14 x15 B x22 x23 acc  dx dy x y = some R := by
    intro k n x y hoff hk hc
    obtain ⟨k, rfl⟩ : ∃ m, k = m + 1 := ⟨k - 1, by omega⟩
    rw [impl_straight_c1.l2, isOnBoard_eq W H x y (by omega) (by omega), Option.bind_some, decide_eq_false hoff, if_neg (by decide)]
    have h1 := hc k (by omega)
    by_cases g : n > 1
    · rw [if_pos g] at h1
      rw [if_pos (show (n : Int) > 1 by omega)]
      first
      | (rw [visit_eq_1 W H _ _ _ (by omega), Option.bind_some]; exact h1)
      | (rw [visit_eq_1 W H, Option.bind_some]; exact h1)
    · rw [if_neg g] at h1
      rw [if_neg (show ¬ (n : Int) > 1 by omega)]
      exact h1
  induction f with
  | zero =>
    intro k n x y hf hn hk hc
    exact off k n x y (by omega) (by omega) (fun k' h => by simpa [runL] using hc k' h)
  | succ f ih =>
    intro k n x y hf hn hk hc
    by_cases c : (0 ≤ x ∧ x ≤ W - 1) ∧ (0 ≤ y ∧ y ≤ H - 1)
    · obtain ⟨k, rfl⟩ : ∃ m, k = m + 1 := ⟨k - 1, by omega⟩
      have hr : runL W H dx dy (f + 1) x y = runL W H dx dy f (x + dx) (y + dy) + 1 := by
        rw [runL, if_pos]
        unfold onB
        exact decide_eq_true c
      rw [hr] at hc
      rw [impl_straight_c1.l2, isOnBoard_eq W H x y (by omega) (by omega), Option.bind_some, decide_eq_true c, if_pos rfl]
      unfold impl_Peg_plus.f
      rw [Option.bind_some, w64 (x := x + dx) (by omega) (by omega), w64 (x := y + dy) (by omega) (by omega), w64 (x := (n : Int) + 1) (by omega) (by omega)]
      have := ih k (n + 1) (x + dx) (y + dy) (by omega) (by omega) (by omega) (fun k' h => by
        have := hc k' h
        rw [show n + (runL W H dx dy f (x + dx) (y + dy) + 1) = n + 1 + runL W H dx dy f (x + dx) (y + dy) by omega] at this
        exact this)
      exact this
    · have hr : runL W H dx dy (f + 1) x y = 0 := by
        rw [runL, if_neg]
        unfold onB
        rw [decide_eq_false c]
        decide
      rw [hr] at hc
      exact off k n x y c (by omega) hc
theorem straight_l1_1 (W H : Int) (hW : 1 ≤ W ∧ W ≤ 12) (hH : 1 ≤ H ∧ H ≤ 12) (dx dy : Int) (hdx : 0 ≤ dx ∧ dx ≤ 12) (hdy : -12 ≤ dy ∧ dy ≤ 12) (hd : 1 ≤ dx ∨ (dx = 0 ∧ 1 ≤ dy)) (K0 : Nat) (L B : List S36) (hB : B.length ≤ 1000) (hb : ∀ p ∈ B, (0 ≤ p.f0 ∧ p.f0 < 12) ∧ (0 ≤ p.f1 ∧ p.f1 < 12)) (x14 x15 : Int) (R : Int) (d : Nat) :
    ∀ (k i : Nat) (acc : Int), i + d = B.length → K0 + d * 30 + 1 ≤ k →
    (∀ k', K0 ≤ k' → impl_straight_c1.l0 k' W H L x14 (wrap64 (x15 + 1)) ((B.drop i).foldl (lineStep_1 W H dx dy) acc)  = some R) →
    impl_straight_c1.l1 k W H L x14 x15 B (B.length : Int) (i : Int) acc  dx dy = some R := by
  induction d with
  | zero =>
    intro k i acc hi hk hc
    obtain ⟨k, rfl⟩ : ∃ m, k = m + 1 := ⟨k - 1, by omega⟩
    have h1 := hc k (by omega)
    rw [List.drop_of_length_le (by omega), List.foldl_nil] at h1
    rw [impl_straight_c1.l1, if_neg (by omega)]
    exact h1
  | succ d ih =>
    intro k i acc hi hk hc
    obtain ⟨k, rfl⟩ : ∃ m, k = m + 1 := ⟨k - 1, by omega⟩
    have hlt : i < B.length := by omega
    have hr : rd_T36 B (i : Int) = B[i] := by
      unfold rd_T36
      simp [List.getD_eq_getElem?_getD, List.getElem?_eq_getElem hlt]
    obtain ⟨hp0, hp1⟩ := hb B[i] (List.getElem_mem hlt)
    rw [List.drop_eq_getElem_cons hlt, List.foldl_cons] at hc
    rw [impl_straight_c1.l1, if_pos (by omega), if_pos (by omega), if_pos (by omega), hr]
    unfold impl_Peg_less.f
    rw [Option.bind_some, w64 (x := B[i].f0 - dx) (by omega) (by omega), w64 (x := B[i].f1 - dy) (by omega) (by omega), isOnBoard_eq W H _ _ (by omega) (by omega), Option.bind_some]
    have hs : lineStep_1 W H dx dy acc B[i] = if onB W H (B[i].f0 - dx) (B[i].f1 - dy) then acc else if runL W H dx dy 12 B[i].f0 B[i].f1 > 1 then visF_1 W H acc (runL W H dx dy 12 B[i].f0 B[i].f1 : Nat) else acc := rfl
    rw [hs] at hc
    unfold onB at hc
    by_cases c : (0 ≤ B[i].f0 - dx ∧ B[i].f0 - dx ≤ W - 1) ∧ (0 ≤ B[i].f1 - dy ∧ B[i].f1 - dy ≤ H - 1)
    · rw [decide_eq_true c, if_pos rfl] at hc
      rw [decide_eq_true c, if_pos rfl, w64 (x := (i : Int) + 1) (by omega) (by omega)]
      exact ih k (i + 1) acc (by omega) (by omega) hc
    · rw [decide_eq_false c, if_neg (by decide)] at hc
      rw [decide_eq_false c, if_neg (by decide)]
      refine straight_l2_1 W H hW hH dx dy hdx hdy (K0 + d * 30 + 1) L B x14 x15 _ _ acc R 12 k 0 _ _ (by omega) (by omega) (by omega) fun k' hk' => ?_
      rw [Nat.zero_add, w64 (x := (i : Int) + 1) (by omega) (by omega)]
      exact ih k' (i + 1) _ (by omega) (by omega) hc
/-- What all lines of some slopes come to. -/
def straightL_1 (w h : Nat) (L : List S36) (acc : Int) : Int := L.foldl (fun a s => (rowsFrom h 0 w).foldl (lineStep_1 (w : Int) (h : Int) s.f0 s.f1) a) acc
theorem straight_l0_1 (w h : Nat) (hw : 1 ≤ w ∧ w ≤ 12) (hh : 1 ≤ h ∧ h ≤ 12) (L : List S36) (hL : L.length ≤ 1000) (hs : ∀ s ∈ L, (0 ≤ s.f0 ∧ s.f0 ≤ 12) ∧ (-12 ≤ s.f1 ∧ s.f1 ≤ 12) ∧ (1 ≤ s.f0 ∨ (s.f0 = 0 ∧ 1 ≤ s.f1))) (d : Nat) :
    ∀ (k i : Nat) (acc : Int), i + d = L.length → d * 20000 + 20000 ≤ k →
    impl_straight_c1.l0 k (w : Int) (h : Int) L (L.length : Int) (i : Int) acc  = some (straightL_1 w h (L.drop i) acc) := by
  have hlen := rowsFrom_length h 0 w
  have hm : w * h ≤ 12 * 12 := Nat.mul_le_mul (by omega) (by omega)
  induction d with
  | zero =>
    intro k i acc hi hk
    obtain ⟨k, rfl⟩ : ∃ m, k = m + 1 := ⟨k - 1, by omega⟩
    rw [impl_straight_c1.l0, if_neg (by omega), List.drop_of_length_le (by omega)]
    rfl
  | succ d ih =>
    intro k i acc hi hk
    obtain ⟨k, rfl⟩ : ∃ m, k = m + 1 := ⟨k - 1, by omega⟩
    have hlt : i < L.length := by omega
    have hr : rd_T36 L (i : Int) = L[i] := by
      unfold rd_T36
      simp [List.getD_eq_getElem?_getD, List.getElem?_eq_getElem hlt]
    obtain ⟨h0, h1, h2⟩ := hs L[i] (List.getElem_mem hlt)
    rw [impl_straight_c1.l0, if_pos (by omega), if_pos (by omega), if_pos (by omega), hr, board_eq k w h (by omega) (by omega) (by omega), Option.bind_some, List.drop_eq_getElem_cons hlt]
    refine straight_l1_1 w h (by omega) (by omega) L[i].f0 L[i].f1 h0 h1 h2 (d * 20000 + 20000) L (rowsFrom h 0 w) (by omega) (fun p hp => ?_) _ _ _ (rowsFrom h 0 w).length k 0 acc (by omega) (by omega) fun k' hk' => ?_
    · have := rows_bound h 0 w 12 (by omega) (by omega) p hp
      omega
    · rw [w64 (x := (i : Int) + 1) (by omega) (by omega), List.drop_zero]
      have := ih k' (i + 1) ((rowsFrom h 0 w).foldl (lineStep_1 (w : Int) (h : Int) L[i].f0 L[i].f1) acc) (by omega) hk'
      exact this

def lineC_1 (w h : Nat) (dx dy : Int) (p : S36) : Nat :=
  if onB w h (p.f0 - dx) (p.f1 - dy) then 0
  else if runL w h dx dy 12 p.f0 p.f1 > 1 then cF_1 w h (runL w h dx dy 12 p.f0 p.f1) else 0
theorem lineC_le_1 (w h : Nat) (dx dy : Int) (p : S36) : lineC_1 w h dx dy p ≤ 300 := by
  unfold lineC_1
  split
  · omega
  · split
    · exact cF_le_1 _ _ _ (Nat.le_trans (runL_le _ _ _ _ _ _ _) (by omega))
    · omega
theorem lineStep_nat_1 (w h : Nat) (dx dy : Int) (acc : Nat) (p : S36) (ha : acc ≤ 1000000000000) : lineStep_1 w h dx dy (acc : Int) p = ((acc + lineC_1 w h dx dy p : Nat) : Int) := by
  unfold lineStep_1 lineC_1
  by_cases c : onB w h (p.f0 - dx) (p.f1 - dy) = true
  · rw [if_pos c, if_pos c]; rfl
  · rw [if_neg c, if_neg c]
    by_cases g : runL w h dx dy 12 p.f0 p.f1 > 1
    · rw [if_pos g, if_pos g]
      exact vis_nat_1 _ _ _ _ (Nat.le_trans (runL_le _ _ _ _ _ _ _) (by omega)) ha
    · rw [if_neg g, if_neg g]; rfl
theorem line_fold_1 (w h : Nat) (dx dy : Int) (B : List S36) : ∀ acc : Nat, acc + B.length * 300 ≤ 1000000000000 → B.foldl (lineStep_1 w h dx dy) (acc : Int) = ((acc + sumC (lineC_1 w h dx dy) B : Nat) : Int) := by
  induction B with
  | nil => intro acc _; rfl
  | cons p l ih =>
    intro acc ha
    rw [List.length_cons, Nat.succ_mul] at ha
    have := lineC_le_1 w h dx dy p
    rw [List.foldl_cons, lineStep_nat_1 w h dx dy acc p (by omega), ih _ (by omega), sumC, Nat.add_assoc]
theorem straight_sum_1 (w h : Nat) (hm : w * h ≤ 144) (L : List S36) : ∀ acc : Nat, acc + L.length * 1000000 ≤ 1000000000000 → straightL_1 w h L (acc : Int) = ((acc + sumC (fun s => sumC (lineC_1 w h s.f0 s.f1) (rowsFrom h 0 w)) L : Nat) : Int) := by
  induction L with
  | nil => intro acc _; rfl
  | cons s l ih =>
    intro acc ha
    rw [List.length_cons, Nat.succ_mul] at ha
    have hlen := rowsFrom_length h 0 w
    have h1 := sumC_le (lineC_1 w h s.f0 s.f1) 300 (rowsFrom h 0 w) (fun p _ => lineC_le_1 _ _ _ _ _)
    have h2 : (rowsFrom h 0 w).length * 300 ≤ 43200 := Nat.mul_le_mul_right 300 (show (rowsFrom h 0 w).length ≤ 144 by rw [hlen]; exact hm)
    obtain ⟨h4, h5⟩ := room_left acc _ _ _ ha h2 h1
    have h3 : straightL_1 w h (s :: l) (acc : Int) = straightL_1 w h l ((rowsFrom h 0 w).foldl (lineStep_1 (w : Int) (h : Int) s.f0 s.f1) (acc : Int)) := rfl
    rw [h3, line_fold_1 w h s.f0 s.f1 (rowsFrom h 0 w) acc h4, ih _ h5, sumC, Nat.add_assoc]

def cellN_1 (w h dx e x y : Nat) : Nat :=
  if Nat.blt x dx || Nat.blt y e then (if Nat.ble 2 (runN w h dx e 12 x y) then cF_1 w h (runN w h dx e 12 x y) else 0) else 0
def slopeN_1 (w h dx e : Nat) : Nat := sumR (fun x => sumR (fun y => cellN_1 w h dx e x y) 0 (Nat.sub h e)) 0 (Nat.sub w dx)
theorem cell_out_1 (w h dx e x y : Nat) (ho : w ≤ x + dx ∨ h ≤ y + e) : cellN_1 w h dx e x y = 0 := by
  have h1 : runN w h dx e 12 x y ≤ 1 := by
    rw [runN]
    split
    · rw [runN, if_neg]
      · omega
      · simp only [Bool.and_eq_true, Nat.blt_eq]
        rintro ⟨e1, e2⟩
        have e1' : x + dx < w := e1
        have e2' : y + e < h := e2
        omega
    · omega
  unfold cellN_1
  rw [if_neg (show ¬ Nat.ble 2 _ = true by rw [Nat.ble_eq]; omega), ite_self]
theorem slopeN_all_1 (w h dx e : Nat) : sumR (fun x => sumR (fun y => cellN_1 w h dx e x y) 0 h) 0 w = slopeN_1 w h dx e := by
  unfold slopeN_1
  rw [sumR_cut _ w (Nat.sub w dx) (Nat.sub_le _ _) fun x h1 _ => sumR_none _ _ _ fun y => cell_out_1 w h dx e x y (.inl (by have h2 : w - dx ≤ x := h1; omega))]
  refine sumR_ext _ _ _ 0 fun x _ _ => ?_
  exact sumR_cut _ h (Nat.sub h e) (Nat.sub_le _ _) fun y h1 _ => cell_out_1 w h dx e x y (.inr (by have h2 : h - e ≤ y := h1; omega))
theorem cell_same_1 (w h a b : Nat) (r n : Nat) (x y : Nat) (O : Bool) (hO : O = true ↔ ¬ (x < a ∨ y < b)) (hr : r = n) : (if O = true then 0 else if r > 1 then cF_1 w h r else 0) = (if (Nat.blt x a || Nat.blt y b) = true then (if Nat.ble 2 n = true then cF_1 w h n else 0) else 0) := by
  subst hr
  have e1 : ((Nat.blt x a || Nat.blt y b) = true) ↔ (x < a ∨ y < b) := by rw [Bool.or_eq_true, Nat.blt_eq, Nat.blt_eq]
  have e2 : (Nat.ble 2 r = true) ↔ r > 1 := by rw [Nat.ble_eq]; omega
  by_cases c : x < a ∨ y < b
  · have n1 : ¬ O = true := fun e => hO.1 e c
    by_cases g : r > 1
    · simp only [n1, e1.2 c, e2.2 g, g, if_true, if_false, Bool.false_eq_true]
    · simp only [n1, e1.2 c, g, show ¬ Nat.ble 2 r = true from fun q => g (e2.1 q), if_true, if_false, Bool.false_eq_true]
  · have n2 : ¬ (Nat.blt x a || Nat.blt y b) = true := fun e => c (e1.1 e)
    simp only [hO.2 c, n2, if_true, if_false, Bool.false_eq_true]
theorem slope_eq_1 (w h : Nat) (dx dy : Int) (hdx : 0 ≤ dx) : sumC (lineC_1 w h dx dy) (rowsFrom h 0 w) = slopeN_1 w h dx.toNat dy.natAbs := by
  rw [sumC_rows, ← slopeN_all_1]
  obtain ⟨a, rfl⟩ : ∃ a : Nat, dx = a := ⟨dx.toNat, by omega⟩
  refine sumR_ext _ _ w 0 fun x _ hx => ?_
  rw [show (a : Int).toNat = a from rfl]
  by_cases s : 0 ≤ dy
  · obtain ⟨b, rfl⟩ : ∃ b : Nat, dy = b := ⟨dy.toNat, by omega⟩
    rw [show (b : Int).natAbs = b from rfl]
    refine sumR_ext _ _ h 0 fun y _ hy => ?_
    unfold lineC_1 cellN_1
    exact cell_same_1 w h a b _ _ x y _ (by unfold onB; rw [decide_eq_true_eq]; show (_ ∧ _) ∧ (_ ∧ _) ↔ _; dsimp only; omega) (run_up w h a b 12 x y)
  · obtain ⟨b, rfl⟩ : ∃ b : Nat, dy = -(b : Int) := ⟨dy.natAbs, by omega⟩
    rw [show (-(b : Int)).natAbs = b by omega]
    rw [← sumR_turn (fun y => cellN_1 w h a b x y) h]
    refine sumR_ext _ _ h 0 fun y _ hy => ?_
    unfold lineC_1 cellN_1
    have := run_down w h a b 12 x (h - 1 - y)
    rw [show (h : Int) - 1 - ((h - 1 - y : Nat) : Int) = y by omega] at this
    exact cell_same_1 w h a b _ _ x (h - 1 - y) _ (by unfold onB; rw [decide_eq_true_eq]; dsimp only; omega) this

/-- The sum over all slopes of a list. -/
def totalN_1 (w h : Nat) : List S36 → Nat
  | [] => 0
  | s :: l => Nat.add (slopeN_1 w h s.f0.toNat s.f1.natAbs) (totalN_1 w h l)
theorem total_eq_1 (w h : Nat) (L : List S36) (hs : ∀ s ∈ L, 0 ≤ s.f0) : sumC (fun s => sumC (lineC_1 w h s.f0 s.f1) (rowsFrom h 0 w)) L = totalN_1 w h L := by
  induction L with
  | nil => rfl
  | cons s l ih => rw [sumC, totalN_1, slope_eq_1 w h s.f0 s.f1 (hs s (by simp)), ih fun q hq => hs q (by simp [hq])]; rfl
def totalB_1 (a b : Nat) : Nat := totalN_1 (a + 1) (b + 1) ((impl_slopes.f 400 ((a : Int) + 1) ((b : Int) + 1)).getD [])
theorem straight_eq_1 (k : Nat) (a b : Fin 12) (hk : 21000000 ≤ k) : impl_straight_c1.f k ((a.val : Int) + 1) ((b.val : Int) + 1) 0  = some ((totalB_1 a.val b.val : Nat) : Int) := by
  have h := slopes_ok a b
  cases hL : impl_slopes.f 400 ((a.val : Int) + 1) ((b.val : Int) + 1) with
  | none => rw [hL] at h; exact absurd h (by decide)
  | some L =>
    rw [hL] at h
    unfold slopesGood at h
    simp only [Bool.and_eq_true, decide_eq_true_eq, List.all_eq_true] at h
    unfold impl_straight_c1.f totalB_1
    rw [at_rounds (g := fun k => impl_slopes.f k _ _) (impl_slopes.mono _ _) (show 400 ≤ k by omega) hL]
    rw [hL, Option.bind_some, Option.getD_some]
    have h1 := straight_l0_1 (a.val + 1) (b.val + 1) (by omega) (by omega) L h.1 h.2 L.length k 0 0 (by omega) (by omega)
    rw [List.drop_zero] at h1
    have hm : (a.val + 1) * (b.val + 1) ≤ 12 * 12 := Nat.mul_le_mul (by omega) (by omega)
    have h2 := straight_sum_1 (a.val + 1) (b.val + 1) (by omega) L 0 (by omega)
    rw [Nat.zero_add, total_eq_1 _ _ L fun s hs => (h.2 s hs).1.1] at h2
    exact h1.trans (congrArg some h2)

def visF_2 (w h acc n : Int) : Int := if n = mx w h then wrap64 (acc + 1) else acc
/-- What a line of n pegs adds. -/
def cF_2 (w h n : Nat) : Nat := if n = max w h then 1 else 0
theorem visit_eq_2 (w h n acc : Int) : impl_CountOnLongest_1.f n w h acc = some (visF_2 w h acc n) := by
  unfold impl_CountOnLongest_1.f visF_2
  split <;> rfl
theorem cF_le_2 (w h n : Nat) (_hn : n ≤ 13) : cF_2 w h n ≤ 300 := by unfold cF_2; split <;> omega
theorem vis_nat_2 (w h acc n : Nat) (_hn : n ≤ 13) (ha : acc ≤ 1000000000000) : visF_2 w h acc n = ((acc + cF_2 w h n : Nat) : Int) := by
  have e : ((n : Int) = mx w h) ↔ n = max w h := by unfold mx; split <;> omega
  unfold visF_2 cF_2
  by_cases c : n = max w h
  · rw [if_pos (e.2 c), if_pos c, w64 (by omega) (by omega)]
    rfl
  · rw [if_neg (fun q => c (e.1 q)), if_neg c]
    rfl

/-- What a peg adds: nothing if a line does not begin there. -/
def lineStep_2 (w h dx dy : Int) (acc : Int) (p : S36) : Int :=
  if onB w h (p.f0 - dx) (p.f1 - dy) then acc
  else if runL w h dx dy 12 p.f0 p.f1 > 1 then visF_2 w h acc (runL w h dx dy 12 p.f0 p.f1 : Nat) else acc
theorem straight_l2_2 (W H : Int) (hW : 1 ≤ W ∧ W ≤ 12) (hH : 1 ≤ H ∧ H ≤ 12) (dx dy : Int) (hdx : 0 ≤ dx ∧ dx ≤ 12) (hdy : -12 ≤ dy ∧ dy ≤ 12) (K0 : Nat) (L B : List S36) (x14 x15 x22 x23 acc : Int) (R : Int) (f : Nat) :
    ∀ (k n : Nat) (x y : Int), ((1 ≤ dx ∧ W - x ≤ f) ∨ (dx = 0 ∧ 1 ≤ dy ∧ H - y ≤ f)) → n + f ≤ 1000 → K0 + f + 10 ≤ k →
    (∀ k', K0 ≤ k' → impl_straight_c2.l1 k' W H L x14 x15 B x22 (wrap64 (x23 + 1)) (if n + runL W H dx dy f x y > 1 then visF_2 W H acc ((n + runL W H dx dy f x y : Nat) : Int) else acc) W H dx dy = some R) →
    impl_straight_c2.l2 k W H (n : Int) L x14 x15 B x22 x23 acc W H dx dy x y = some R := by
  have off : ∀ (k n : Nat) (x y : Int), ¬ ((0 ≤ x ∧ x ≤ W - 1) ∧ (0 ≤ y ∧ y ≤ H - 1)) → K0 + 8 ≤ k → (∀ k', K0 ≤ k' → impl_straight_c2.l1 k' W H L x14 x15 B x22 (wrap64 (x23 + 1)) (if n > 1 then visF_2 W H acc (n : Int) else acc) W H dx dy = some R) →
      impl_straight_c2.l2 k W H (n : Int) L x14 x15 B x22 x23 acc W H dx dy x y = some R := by
    intro k n x y hoff hk hc
    obtain ⟨k, rfl⟩ : ∃ m, k = m + 1 := ⟨k - 1, by omega⟩
    rw [impl_straight_c2.l2, isOnBoard_eq W H x y (by omega) (by omega), Option.bind_some, decide_eq_false hoff, if_neg (by decide)]
    have h1 := hc k (by omega)
    by_cases g : n > 1
    · rw [if_pos g] at h1
      rw [if_pos (show (n : Int) > 1 by omega)]
      first
      | (rw [visit_eq_2 W H _ _ _ (by omega), Option.bind_some]; exact h1)
      | (rw [visit_eq_2 W H, Option.bind_some]; exact h1)
    · rw [if_neg g] at h1
      rw [if_neg (show ¬ (n : Int) > 1 by omega)]
      exact h1
  induction f with
  | zero =>
    intro k n x y hf hn hk hc
    exact off k n x y (by omega) (by omega) (fun k' h => by simpa [runL] using hc k' h)
  | succ f ih =>
    intro k n x y hf hn hk hc
    by_cases c : (0 ≤ x ∧ x ≤ W - 1) ∧ (0 ≤ y ∧ y ≤ H - 1)
    · obtain ⟨k, rfl⟩ : ∃ m, k = m + 1 := ⟨k - 1, by omega⟩
      have hr : runL W H dx dy (f + 1) x y = runL W H dx dy f (x + dx) (y + dy) + 1 := by
        rw [runL, if_pos]
        unfold onB
        exact decide_eq_true c
      rw [hr] at hc
      rw [impl_straight_c2.l2, isOnBoard_eq W H x y (by omega) (by omega), Option.bind_some, decide_eq_true c, if_pos rfl]
      unfold impl_Peg_plus.f
      rw [Option.bind_some, w64 (x := x + dx) (by omega) (by omega), w64 (x := y + dy) (by omega) (by omega), w64 (x := (n : Int) + 1) (by omega) (by omega)]
      have := ih k (n + 1) (x + dx) (y + dy) (by omega) (by omega) (by omega) (fun k' h => by
        have := hc k' h
        rw [show n + (runL W H dx dy f (x + dx) (y + dy) + 1) = n + 1 + runL W H dx dy f (x + dx) (y + dy) by omega] at this
        exact this)
      exact this
    · have hr : runL W H dx dy (f + 1) x y = 0 := by
        rw [runL, if_neg]
        unfold onB
        rw [decide_eq_false c]
        decide
      rw [hr] at hc
      exact off k n x y c (by omega) hc
theorem straight_l1_2 (W H : Int) (hW : 1 ≤ W ∧ W ≤ 12) (hH : 1 ≤ H ∧ H ≤ 12) (dx dy : Int) (hdx : 0 ≤ dx ∧ dx ≤ 12) (hdy : -12 ≤ dy ∧ dy ≤ 12) (hd : 1 ≤ dx ∨ (dx = 0 ∧ 1 ≤ dy)) (K0 : Nat) (L B : List S36) (hB : B.length ≤ 1000) (hb : ∀ p ∈ B, (0 ≤ p.f0 ∧ p.f0 < 12) ∧ (0 ≤ p.f1 ∧ p.f1 < 12)) (x14 x15 : Int) (R : Int) (d : Nat) :
    ∀ (k i : Nat) (acc : Int), i + d = B.length → K0 + d * 30 + 1 ≤ k →
    (∀ k', K0 ≤ k' → impl_straight_c2.l0 k' W H L x14 (wrap64 (x15 + 1)) ((B.drop i).foldl (lineStep_2 W H dx dy) acc) W H = some R) →
    impl_straight_c2.l1 k W H L x14 x15 B (B.length : Int) (i : Int) acc W H dx dy = some R := by
  induction d with
  | zero =>
    intro k i acc hi hk hc
    obtain ⟨k, rfl⟩ : ∃ m, k = m + 1 := ⟨k - 1, by omega⟩
    have h1 := hc k (by omega)
    rw [List.drop_of_length_le (by omega), List.foldl_nil] at h1
    rw [impl_straight_c2.l1, if_neg (by omega)]
    exact h1
  | succ d ih =>
    intro k i acc hi hk hc
    obtain ⟨k, rfl⟩ : ∃ m, k = m + 1 := ⟨k - 1, by omega⟩
    have hlt : i < B.length := by omega
    have hr : rd_T36 B (i : Int) = B[i] := by
      unfold rd_T36
      simp [List.getD_eq_getElem?_getD, List.getElem?_eq_getElem hlt]
    obtain ⟨hp0, hp1⟩ := hb B[i] (List.getElem_mem hlt)
    rw [List.drop_eq_getElem_cons hlt, List.foldl_cons] at hc
    rw [impl_straight_c2.l1, if_pos (by omega), if_pos (by omega), if_pos (by omega), hr]
    unfold impl_Peg_less.f
    rw [Option.bind_some, w64 (x := B[i].f0 - dx) (by omega) (by omega), w64 (x := B[i].f1 - dy) (by omega) (by omega), isOnBoard_eq W H _ _ (by omega) (by omega), Option.bind_some]
    have hs : lineStep_2 W H dx dy acc B[i] = if onB W H (B[i].f0 - dx) (B[i].f1 - dy) then acc else if runL W H dx dy 12 B[i].f0 B[i].f1 > 1 then visF_2 W H acc (runL W H dx dy 12 B[i].f0 B[i].f1 : Nat) else acc := rfl
    rw [hs] at hc
    unfold onB at hc
    by_cases c : (0 ≤ B[i].f0 - dx ∧ B[i].f0 - dx ≤ W - 1) ∧ (0 ≤ B[i].f1 - dy ∧ B[i].f1 - dy ≤ H - 1)
    · rw [decide_eq_true c, if_pos rfl] at hc
      rw [decide_eq_true c, if_pos rfl, w64 (x := (i : Int) + 1) (by omega) (by omega)]
      exact ih k (i + 1) acc (by omega) (by omega) hc
    · rw [decide_eq_false c, if_neg (by decide)] at hc
      rw [decide_eq_false c, if_neg (by decide)]
      refine straight_l2_2 W H hW hH dx dy hdx hdy (K0 + d * 30 + 1) L B x14 x15 _ _ acc R 12 k 0 _ _ (by omega) (by omega) (by omega) fun k' hk' => ?_
      rw [Nat.zero_add, w64 (x := (i : Int) + 1) (by omega) (by omega)]
      exact ih k' (i + 1) _ (by omega) (by omega) hc
/-- What all lines of some slopes come to. -/
def straightL_2 (w h : Nat) (L : List S36) (acc : Int) : Int := L.foldl (fun a s => (rowsFrom h 0 w).foldl (lineStep_2 (w : Int) (h : Int) s.f0 s.f1) a) acc
theorem straight_l0_2 (w h : Nat) (hw : 1 ≤ w ∧ w ≤ 12) (hh : 1 ≤ h ∧ h ≤ 12) (L : List S36) (hL : L.length ≤ 1000) (hs : ∀ s ∈ L, (0 ≤ s.f0 ∧ s.f0 ≤ 12) ∧ (-12 ≤ s.f1 ∧ s.f1 ≤ 12) ∧ (1 ≤ s.f0 ∨ (s.f0 = 0 ∧ 1 ≤ s.f1))) (d : Nat) :
    ∀ (k i : Nat) (acc : Int), i + d = L.length → d * 20000 + 20000 ≤ k →
    impl_straight_c2.l0 k (w : Int) (h : Int) L (L.length : Int) (i : Int) acc (w : Int) (h : Int) = some (straightL_2 w h (L.drop i) acc) := by
  have hlen := rowsFrom_length h 0 w
  have hm : w * h ≤ 12 * 12 := Nat.mul_le_mul (by omega) (by omega)
  induction d with
  | zero =>
    intro k i acc hi hk
    obtain ⟨k, rfl⟩ : ∃ m, k = m + 1 := ⟨k - 1, by omega⟩
    rw [impl_straight_c2.l0, if_neg (by omega), List.drop_of_length_le (by omega)]
    rfl
  | succ d ih =>
    intro k i acc hi hk
    obtain ⟨k, rfl⟩ : ∃ m, k = m + 1 := ⟨k - 1, by omega⟩
    have hlt : i < L.length := by omega
    have hr : rd_T36 L (i : Int) = L[i] := by
      unfold rd_T36
      simp [List.getD_eq_getElem?_getD, List.getElem?_eq_getElem hlt]
    obtain ⟨h0, h1, h2⟩ := hs L[i] (List.getElem_mem hlt)
    rw [impl_straight_c2.l0, if_pos (by omega), if_pos (by omega), if_pos (by omega), hr, board_eq k w h (by omega) (by omega) (by omega), Option.bind_some, List.drop_eq_getElem_cons hlt]
    refine straight_l1_2 w h (by omega) (by omega) L[i].f0 L[i].f1 h0 h1 h2 (d * 20000 + 20000) L (rowsFrom h 0 w) (by omega) (fun p hp => ?_) _ _ _ (rowsFrom h 0 w).length k 0 acc (by omega) (by omega) fun k' hk' => ?_
    · have := rows_bound h 0 w 12 (by omega) (by omega) p hp
      omega
    · rw [w64 (x := (i : Int) + 1) (by omega) (by omega), List.drop_zero]
      have := ih k' (i + 1) ((rowsFrom h 0 w).foldl (lineStep_2 (w : Int) (h : Int) L[i].f0 L[i].f1) acc) (by omega) hk'
      exact this

def lineC_2 (w h : Nat) (dx dy : Int) (p : S36) : Nat :=
  if onB w h (p.f0 - dx) (p.f1 - dy) then 0
  else if runL w h dx dy 12 p.f0 p.f1 > 1 then cF_2 w h (runL w h dx dy 12 p.f0 p.f1) else 0
theorem lineC_le_2 (w h : Nat) (dx dy : Int) (p : S36) : lineC_2 w h dx dy p ≤ 300 := by
  unfold lineC_2
  split
  · omega
  · split
    · exact cF_le_2 _ _ _ (Nat.le_trans (runL_le _ _ _ _ _ _ _) (by omega))
    · omega
theorem lineStep_nat_2 (w h : Nat) (dx dy : Int) (acc : Nat) (p : S36) (ha : acc ≤ 1000000000000) : lineStep_2 w h dx dy (acc : Int) p = ((acc + lineC_2 w h dx dy p : Nat) : Int) := by
  unfold lineStep_2 lineC_2
  by_cases c : onB w h (p.f0 - dx) (p.f1 - dy) = true
  · rw [if_pos c, if_pos c]; rfl
  · rw [if_neg c, if_neg c]
    by_cases g : runL w h dx dy 12 p.f0 p.f1 > 1
    · rw [if_pos g, if_pos g]
      exact vis_nat_2 _ _ _ _ (Nat.le_trans (runL_le _ _ _ _ _ _ _) (by omega)) ha
    · rw [if_neg g, if_neg g]; rfl
theorem line_fold_2 (w h : Nat) (dx dy : Int) (B : List S36) : ∀ acc : Nat, acc + B.length * 300 ≤ 1000000000000 → B.foldl (lineStep_2 w h dx dy) (acc : Int) = ((acc + sumC (lineC_2 w h dx dy) B : Nat) : Int) := by
  induction B with
  | nil => intro acc _; rfl
  | cons p l ih =>
    intro acc ha
    rw [List.length_cons, Nat.succ_mul] at ha
    have := lineC_le_2 w h dx dy p
    rw [List.foldl_cons, lineStep_nat_2 w h dx dy acc p (by omega), ih _ (by omega), sumC, Nat.add_assoc]
theorem straight_sum_2 (w h : Nat) (hm : w * h ≤ 144) (L : List S36) : ∀ acc : Nat, acc + L.length * 1000000 ≤ 1000000000000 → straightL_2 w h L (acc : Int) = ((acc + sumC (fun s => sumC (lineC_2 w h s.f0 s.f1) (rowsFrom h 0 w)) L : Nat) : Int) := by
  induction L with
  | nil => intro acc _; rfl
  | cons s l ih =>
    intro acc ha
    rw [List.length_cons, Nat.succ_mul] at ha
    have hlen := rowsFrom_length h 0 w
    have h1 := sumC_le (lineC_2 w h s.f0 s.f1) 300 (rowsFrom h 0 w) (fun p _ => lineC_le_2 _ _ _ _ _)
    have h2 : (rowsFrom h 0 w).length * 300 ≤ 43200 := Nat.mul_le_mul_right 300 (show (rowsFrom h 0 w).length ≤ 144 by rw [hlen]; exact hm)
    obtain ⟨h4, h5⟩ := room_left acc _ _ _ ha h2 h1
    have h3 : straightL_2 w h (s :: l) (acc : Int) = straightL_2 w h l ((rowsFrom h 0 w).foldl (lineStep_2 (w : Int) (h : Int) s.f0 s.f1) (acc : Int)) := rfl
    rw [h3, line_fold_2 w h s.f0 s.f1 (rowsFrom h 0 w) acc h4, ih _ h5, sumC, Nat.add_assoc]

def cellN_2 (w h dx e x y : Nat) : Nat :=
  if Nat.blt x dx || Nat.blt y e then (if Nat.ble 2 (runN w h dx e 12 x y) then cF_2 w h (runN w h dx e 12 x y) else 0) else 0
def slopeN_2 (w h dx e : Nat) : Nat := sumR (fun x => sumR (fun y => cellN_2 w h dx e x y) 0 (Nat.sub h e)) 0 (Nat.sub w dx)
theorem cell_out_2 (w h dx e x y : Nat) (ho : w ≤ x + dx ∨ h ≤ y + e) : cellN_2 w h dx e x y = 0 := by
  have h1 : runN w h dx e 12 x y ≤ 1 := by
    rw [runN]
    split
    · rw [runN, if_neg]
      · omega
      · simp only [Bool.and_eq_true, Nat.blt_eq]
        rintro ⟨e1, e2⟩
        have e1' : x + dx < w := e1
        have e2' : y + e < h := e2
        omega
    · omega
  unfold cellN_2
  rw [if_neg (show ¬ Nat.ble 2 _ = true by rw [Nat.ble_eq]; omega), ite_self]
theorem slopeN_all_2 (w h dx e : Nat) : sumR (fun x => sumR (fun y => cellN_2 w h dx e x y) 0 h) 0 w = slopeN_2 w h dx e := by
  unfold slopeN_2
  rw [sumR_cut _ w (Nat.sub w dx) (Nat.sub_le _ _) fun x h1 _ => sumR_none _ _ _ fun y => cell_out_2 w h dx e x y (.inl (by have h2 : w - dx ≤ x := h1; omega))]
  refine sumR_ext _ _ _ 0 fun x _ _ => ?_
  exact sumR_cut _ h (Nat.sub h e) (Nat.sub_le _ _) fun y h1 _ => cell_out_2 w h dx e x y (.inr (by have h2 : h - e ≤ y := h1; omega))
theorem cell_same_2 (w h a b : Nat) (r n : Nat) (x y : Nat) (O : Bool) (hO : O = true ↔ ¬ (x < a ∨ y < b)) (hr : r = n) : (if O = true then 0 else if r > 1 then cF_2 w h r else 0) = (if (Nat.blt x a || Nat.blt y b) = true then (if Nat.ble 2 n = true then cF_2 w h n else 0) else 0) := by
  subst hr
  have e1 : ((Nat.blt x a || Nat.blt y b) = true) ↔ (x < a ∨ y < b) := by rw [Bool.or_eq_true, Nat.blt_eq, Nat.blt_eq]
  have e2 : (Nat.ble 2 r = true) ↔ r > 1 := by rw [Nat.ble_eq]; omega
  by_cases c : x < a ∨ y < b
  · have n1 : ¬ O = true := fun e => hO.1 e c
    by_cases g : r > 1
    · simp only [n1, e1.2 c, e2.2 g, g, if_true, if_false, Bool.false_eq_true]
    · simp only [n1, e1.2 c, g, show ¬ Nat.ble 2 r = true from fun q => g (e2.1 q), if_true, if_false, Bool.false_eq_true]
  · have n2 : ¬ (Nat.blt x a || Nat.blt y b) = true := fun e => c (e1.1 e)
    simp only [hO.2 c, n2, if_true, if_false, Bool.false_eq_true]
theorem slope_eq_2 (w h : Nat) (dx dy : Int) (hdx : 0 ≤ dx) : sumC (lineC_2 w h dx dy) (rowsFrom h 0 w) = slopeN_2 w h dx.toNat dy.natAbs := by
  rw [sumC_rows, ← slopeN_all_2]
  obtain ⟨a, rfl⟩ : ∃ a : Nat, dx = a := ⟨dx.toNat, by omega⟩
  refine sumR_ext _ _ w 0 fun x _ hx => ?_
  rw [show (a : Int).toNat = a from rfl]
  by_cases s : 0 ≤ dy
  · obtain ⟨b, rfl⟩ : ∃ b : Nat, dy = b := ⟨dy.toNat, by omega⟩
    rw [show (b : Int).natAbs = b from rfl]
    refine sumR_ext _ _ h 0 fun y _ hy => ?_
    unfold lineC_2 cellN_2
    exact cell_same_2 w h a b _ _ x y _ (by unfold onB; rw [decide_eq_true_eq]; show (_ ∧ _) ∧ (_ ∧ _) ↔ _; dsimp only; omega) (run_up w h a b 12 x y)
  · obtain ⟨b, rfl⟩ : ∃ b : Nat, dy = -(b : Int) := ⟨dy.natAbs, by omega⟩
    rw [show (-(b : Int)).natAbs = b by omega]
    rw [← sumR_turn (fun y => cellN_2 w h a b x y) h]
    refine sumR_ext _ _ h 0 fun y _ hy => ?_
    unfold lineC_2 cellN_2
    have := run_down w h a b 12 x (h - 1 - y)
    rw [show (h : Int) - 1 - ((h - 1 - y : Nat) : Int) = y by omega] at this
    exact cell_same_2 w h a b _ _ x (h - 1 - y) _ (by unfold onB; rw [decide_eq_true_eq]; dsimp only; omega) this

/-- The sum over all slopes of a list. -/
def totalN_2 (w h : Nat) : List S36 → Nat
  | [] => 0
  | s :: l => Nat.add (slopeN_2 w h s.f0.toNat s.f1.natAbs) (totalN_2 w h l)
theorem total_eq_2 (w h : Nat) (L : List S36) (hs : ∀ s ∈ L, 0 ≤ s.f0) : sumC (fun s => sumC (lineC_2 w h s.f0 s.f1) (rowsFrom h 0 w)) L = totalN_2 w h L := by
  induction L with
  | nil => rfl
  | cons s l ih => rw [sumC, totalN_2, slope_eq_2 w h s.f0 s.f1 (hs s (by simp)), ih fun q hq => hs q (by simp [hq])]; rfl
def totalB_2 (a b : Nat) : Nat := totalN_2 (a + 1) (b + 1) ((impl_slopes.f 400 ((a : Int) + 1) ((b : Int) + 1)).getD [])
theorem straight_eq_2 (k : Nat) (a b : Fin 12) (hk : 21000000 ≤ k) : impl_straight_c2.f k ((a.val : Int) + 1) ((b.val : Int) + 1) 0 ((a.val : Int) + 1) ((b.val : Int) + 1) = some ((totalB_2 a.val b.val : Nat) : Int) := by
  have h := slopes_ok a b
  cases hL : impl_slopes.f 400 ((a.val : Int) + 1) ((b.val : Int) + 1) with
  | none => rw [hL] at h; exact absurd h (by decide)
  | some L =>
    rw [hL] at h
    unfold slopesGood at h
    simp only [Bool.and_eq_true, decide_eq_true_eq, List.all_eq_true] at h
    unfold impl_straight_c2.f totalB_2
    rw [at_rounds (g := fun k => impl_slopes.f k _ _) (impl_slopes.mono _ _) (show 400 ≤ k by omega) hL]
    rw [hL, Option.bind_some, Option.getD_some]
    have h1 := straight_l0_2 (a.val + 1) (b.val + 1) (by omega) (by omega) L h.1 h.2 L.length k 0 0 (by omega) (by omega)
    rw [List.drop_zero] at h1
    have hm : (a.val + 1) * (b.val + 1) ≤ 12 * 12 := Nat.mul_le_mul (by omega) (by omega)
    have h2 := straight_sum_2 (a.val + 1) (b.val + 1) (by omega) L 0 (by omega)
    rw [Nat.zero_add, total_eq_2 _ _ L fun s hs => (h.2 s hs).1.1] at h2
    exact h1.trans (congrArg some h2)

/-- The letters of a draw's text are bytes. -/
def bytesP (l : List Int) : Prop := l.length ≤ 9223372036854775807 ∧ ∀ x ∈ l, 0 ≤ x ∧ x ≤ 255
theorem and255 (x : Int) : 0 ≤ wrap64 (Go.bits .and .u64 x 255) ∧ wrap64 (Go.bits .and .u64 x 255) ≤ 255 := by
  obtain ⟨n, hn, e⟩ : ∃ n : Nat, n ≤ 255 ∧ Go.bits .and .u64 x 255 = IntKind.u64.wrap (n : Int) := by
    refine ⟨(BitVec.ofInt 64 x).toNat &&& 255, Nat.and_le_right, ?_⟩
    show IntKind.u64.wrap (((BitVec.ofInt 64 x &&& BitVec.ofInt 64 255).toNat : Nat) : Int) = _
    rw [BitVec.toNat_and, show (BitVec.ofInt 64 255).toNat = 255 from rfl]
  have e2 : IntKind.u64.wrap (n : Int) = n := by
    simp [IntKind.wrap, IntKind.bits, IntKind.signed]
    omega
  rw [e, e2, w64 (by omega) (by omega)]
  omega
theorem rd_byte (l : List Int) (h : bytesP l) (i : Int) : 0 ≤ rd l i ∧ rd l i ≤ 255 := by
  unfold rd
  by_cases c : i.toNat < l.length
  · rw [List.getD_eq_getElem?_getD, List.getElem?_eq_getElem c, Option.getD_some]
    exact h.2 _ (List.getElem_mem c)
  · rw [List.getD_eq_getElem?_getD, List.getElem?_eq_none (by omega)]
    decide
theorem next_some (l : List Int) (h : bytesP l) (at_ sd : Int) (ha : 0 ≤ at_ ∧ at_ ≤ 1000000) : ∃ b sd', spec_l1Cur_next.f l at_ sd = some (b, at_ + 1, sd') ∧ 0 ≤ b ∧ b ≤ 255 := by
  have hb := rd_byte l h at_
  have hl := h.1
  unfold spec_l1Cur_next.f
  rw [w64 (x := at_ + 1) (by omega) (by omega), w64 (x := rd l at_) (by omega) (by omega)]
  by_cases c : at_ < (l.length : Int)
  · rw [if_pos c, if_pos ha.1, if_pos (by omega)]
    exact ⟨_, _, rfl, hb⟩
  · rw [if_neg c, if_neg (by omega)]
    exact ⟨_, _, rfl, and255 _⟩
theorem pick_some (l : List Int) (h : bytesP l) (at_ sd n : Int) (ha : 0 ≤ at_ ∧ at_ ≤ 1000000) (hn : 2 ≤ n ∧ n ≤ 200) : ∃ b sd', spec_l1Cur_pick.f l at_ sd n = some (b, at_ + 1, sd') ∧ 0 ≤ b ∧ b < n := by
  obtain ⟨b, sd', e, h1, h2⟩ := next_some l h at_ sd ha
  unfold spec_l1Cur_pick.f
  rw [if_neg (by omega), e, Option.bind_some, if_neg (by omega), if_neg (by omega)]
  refine ⟨_, _, rfl, Int.tmod_nonneg _ h1, Int.tmod_lt_of_pos _ (by omega)⟩
theorem one_some (l : List Int) (h : bytesP l) (at_ sd n : Int) (ha : 0 ≤ at_ ∧ at_ ≤ 1000000) (hn : 2 ≤ n ∧ n ≤ 200) : ∃ b sd', spec_l1Cur_one.f l at_ sd n = some (b, at_ + 1, sd') := by
  obtain ⟨b, sd', e, _⟩ := pick_some l h at_ sd n ha hn
  unfold spec_l1Cur_one.f
  rw [e, Option.bind_some]
  exact ⟨_, _, rfl⟩
theorem among_some (l : List Int) (h : bytesP l) (at_ sd : Int) (L : List Int) (ha : 0 ≤ at_ ∧ at_ ≤ 1000000) (hn : 2 ≤ L.length ∧ L.length ≤ 200) : ∃ b sd', spec_l1Cur_among.f l at_ sd L = some (b, at_ + 1, sd') := by
  obtain ⟨b, sd', e, h1, h2⟩ := pick_some l h at_ sd (L.length : Int) ha (by omega)
  unfold spec_l1Cur_among.f
  rw [e, Option.bind_some, if_pos h1, if_pos h2]
  exact ⟨_, _, rfl⟩
theorem board_some (l : List Int) (h : bytesP l) (at_ sd m : Int) (ha : 0 ≤ at_ ∧ at_ ≤ 1000) (hm : 2 ≤ m ∧ m ≤ 100) : ∃ w v at' sd', spec_l1Cur_board.f l at_ sd m = some (w, v, at', sd') ∧ 0 ≤ at' ∧ at' ≤ at_ + 3 := by
  obtain ⟨b, s1, e1⟩ := one_some l h at_ sd 10 (by omega) (by omega)
  unfold spec_l1Cur_board.f
  rw [e1, Option.bind_some]
  by_cases c : b = true
  · obtain ⟨x, s2, e2⟩ := among_some l h (at_ + 1) s1 [0, 1, m, wrap64 (m + 1), (-1), 4611686018427387904] (by omega) (by simp)
    obtain ⟨y, s3, e3⟩ := among_some l h (at_ + 1 + 1) s2 [1, 2, m, wrap64 (m + 1), 0] (by omega) (by simp)
    rw [if_pos c, e2, Option.bind_some, e3, Option.bind_some]
    exact ⟨_, _, _, _, rfl, by show 0 ≤ at_ + 1 + 1 + 1; omega, by show at_ + 1 + 1 + 1 ≤ _; omega⟩
  · obtain ⟨x, s2, e2, _⟩ := pick_some l h (at_ + 1) s1 m (by omega) (by omega)
    obtain ⟨y, s3, e3, _⟩ := pick_some l h (at_ + 1 + 1) s2 m (by omega) (by omega)
    rw [if_neg c, e2, Option.bind_some, e3, Option.bind_some]
    exact ⟨_, _, _, _, rfl, by show 0 ≤ at_ + 1 + 1 + 1; omega, by show at_ + 1 + 1 + 1 ≤ _; omega⟩

theorem drawT_some (l : List Int) (h : bytesP l) : ∃ w v, spec_DrawCountTriangles.f l = some (w, v) := by
  obtain ⟨w, v, a, s, e, _⟩ := board_some l h 0 0 12 (by omega) (by omega)
  unfold spec_DrawCountTriangles.f spec_DrawCountSlopes.f
  rw [e, Option.bind_some, Option.bind_some]
  exact ⟨_, _, rfl⟩
theorem drawA_some (l : List Int) (h : bytesP l) : ∃ w v t, spec_DrawCountOfArea.f l = some (w, v, t) := by
  obtain ⟨w, v, a, s, e, h1, h2⟩ := board_some l h 0 0 5 (by omega) (by omega)
  obtain ⟨x, s2, e2⟩ := among_some l h a s [0, 1, 2, 3, 4, 8, 200, 201, (-1)] (by omega) (by simp)
  unfold spec_DrawCountOfArea.f
  rw [e, Option.bind_some, e2, Option.bind_some]
  exact ⟨_, _, _, rfl⟩
theorem drawP_some (l : List Int) (h : bytesP l) : ∃ w v t, spec_DrawCountPairs.f l = some (w, v, t) := by
  obtain ⟨w, v, a, s, e, h1, h2⟩ := board_some l h 0 0 12 (by omega) (by omega)
  obtain ⟨x, s2, e2⟩ := among_some l h a s [1, 1, 2, 3, 5, 11, 12, 13, 0] (by omega) (by simp)
  unfold spec_DrawCountPairs.f
  rw [e, Option.bind_some, e2, Option.bind_some]
  exact ⟨_, _, _, rfl⟩
theorem drawS_some (l : List Int) (h : bytesP l) : ∃ w v x y, spec_DrawPegsSeen.f l = some (w, v, x, y) := by
  obtain ⟨w, v, a, s, e, h1, h2⟩ := board_some l h 0 0 12 (by omega) (by omega)
  obtain ⟨x, s2, e2, _⟩ := pick_some l h a s 13 (by omega) (by omega)
  obtain ⟨y, s3, e3, _⟩ := pick_some l h (a + 1) s2 2 (by omega) (by omega)
  obtain ⟨z, s4, e4, _⟩ := pick_some l h (a + 1 + 1) s3 8 (by omega) (by omega)
  unfold spec_DrawPegsSeen.f
  rw [e, Option.bind_some, e2, Option.bind_some, e3, Option.bind_some, e4, Option.bind_some]
  exact ⟨_, _, _, _, rfl⟩

/-- Pairs of so many steps on a board, as the reference counts them. -/
def pairV (w h s : Int) : Int := ((spec_CountPairs.f 200 w h s).getD (0, false)).1
def pairOK (w h s : Int) : Bool := match spec_CountPairs.f 200 w h s, impl_CountPairs.f 200 w h s with
  | some (x, true), some (y, true) => decide (x = y) && (decide (0 ≤ x) && decide (x ≤ 1000000))
  | _, _ => false
theorem pairs_ok : ∀ s a b : Fin 12, pairOK ((a.val : Int) + 1) ((b.val : Int) + 1) ((s.val : Int) + 1) = true := by decide +kernel
theorem pairs_in (w h s : Int) (c : (1 ≤ w ∧ w ≤ 12) ∧ (1 ≤ h ∧ h ≤ 12)) (c2 : 1 ≤ s ∧ s ≤ 12) (k : Nat) (hk : 200 ≤ k) : spec_CountPairs.f k w h s = some (pairV w h s, true) ∧ impl_CountPairs.f k w h s = some (pairV w h s, true) ∧ 0 ≤ pairV w h s ∧ pairV w h s ≤ 1000000 := by
  have h1 := pairs_ok ⟨(s - 1).toNat, by omega⟩
  have e1 : (((s - 1).toNat : Nat) : Int) + 1 = s := by omega
  have h2 := all_boards (fun w v => pairOK w v ((((s - 1).toNat : Nat) : Int) + 1) = true) h1 w h c
  rw [e1] at h2
  unfold pairOK at h2
  unfold pairV
  cases hs : spec_CountPairs.f 200 w h s with
  | none => rw [hs] at h2; simp at h2
  | some p =>
    obtain ⟨x, bx⟩ := p
    rw [hs] at h2
    cases hi : impl_CountPairs.f 200 w h s with
    | none => rw [hi] at h2; cases bx <;> simp at h2
    | some q =>
      obtain ⟨y, by_⟩ := q
      rw [hi] at h2
      cases bx <;> cases by_ <;> simp at h2
      obtain ⟨rfl, h3, h4⟩ := h2
      refine ⟨?_, ?_, h3, h4⟩
      · rw [at_rounds (g := fun k => spec_CountPairs.f k w h s) (spec_CountPairs.mono w h s) hk hs]
        rfl
      · rw [at_rounds (g := fun k => impl_CountPairs.f k w h s) (impl_CountPairs.mono w h s) hk hi]
        rfl
theorem pairs_both (w h s : Int) (k : Nat) (hk : 200 ≤ k) : ∃ r, spec_CountPairs.f k w h s = some r ∧ impl_CountPairs.f k w h s = some r := by
  obtain ⟨k, rfl⟩ : ∃ m, k = m + 1 := ⟨k - 1, by omega⟩
  by_cases c : (1 ≤ w ∧ w ≤ 12) ∧ (1 ≤ h ∧ h ≤ 12)
  · by_cases c2 : 1 ≤ s ∧ s ≤ 12
    · have := pairs_in w h s c c2 (k + 1) hk
      exact ⟨_, this.1, this.2.1⟩
    · refine ⟨(0, false), ?_, ?_⟩
      · unfold spec_CountPairs.f
        rw [ctBoard_eq, Option.bind_some, decide_eq_true c, if_pos rfl, in_eq, Option.bind_some, decide_eq_false c2, if_neg (by decide)]
      · unfold impl_CountPairs.f
        rw [isBoard_eq, Option.bind_some, decide_eq_true c, if_pos rfl, within_eq, Option.bind_some, decide_eq_false c2]
        rfl
  · refine ⟨(0, false), ?_, ?_⟩
    · unfold spec_CountPairs.f
      rw [ctBoard_eq, Option.bind_some, decide_eq_false c, if_neg (by decide)]
    · unfold impl_CountPairs.f
      rw [isBoard_eq, Option.bind_some, decide_eq_false c, if_neg (by decide)]
      rfl

/-- How many pegs are seen. -/
def seenN (w h : Nat) (px py : Int) : Nat := (rowsFrom h 0 w).countP (seenB px py)
theorem seen_out (w h px py : Int) (k : Nat) (hk : 1 ≤ k) (c : ¬ (((1 ≤ w ∧ w ≤ 12) ∧ (1 ≤ h ∧ h ≤ 12)) ∧ ((0 ≤ px ∧ px ≤ w - 1) ∧ (0 ≤ py ∧ py ≤ h - 1)))) : spec_PegsSeen.f k w h px py = some (0, false) ∧ impl_PegsSeen.f k w h px py = some (0, false) := by
  obtain ⟨k, rfl⟩ : ∃ m, k = m + 1 := ⟨k - 1, by omega⟩
  unfold spec_PegsSeen.f impl_PegsSeen.f
  rw [ctBoard_eq, isBoard_eq, Option.bind_some, Option.bind_some]
  by_cases d : (1 ≤ w ∧ w ≤ 12) ∧ (1 ≤ h ∧ h ≤ 12)
  · rw [decide_eq_true d, if_pos rfl, if_pos rfl, isOnBoard_eq w h px py (by omega) (by omega), w64 (x := w - 1) (by omega) (by omega), w64 (x := h - 1) (by omega) (by omega), in_eq, in_eq]
    simp only [Option.bind_some]
    have c2 : ¬ ((0 ≤ px ∧ px ≤ w - 1) ∧ (0 ≤ py ∧ py ≤ h - 1)) := fun e => c ⟨d, e⟩
    rw [decide_eq_false c2]
    refine ⟨?_, rfl⟩
    by_cases d1 : 0 ≤ px ∧ px ≤ w - 1
    · rw [decide_eq_true d1, if_pos rfl, decide_eq_false (show ¬ (0 ≤ py ∧ py ≤ h - 1) from fun e => c2 ⟨d1, e⟩)]
      rfl
    · rw [decide_eq_false d1, if_neg (by decide)]
      rfl
  · rw [decide_eq_false d, if_neg (by decide), if_neg (by decide)]
    exact ⟨rfl, rfl⟩
theorem seen_in (W H : Nat) (px py : Int) (k : Nat) (hk : 20001 ≤ k) (c : (1 ≤ W ∧ W ≤ 12) ∧ (1 ≤ H ∧ H ≤ 12)) (d : (0 ≤ px ∧ px ≤ (W : Int) - 1) ∧ (0 ≤ py ∧ py ≤ (H : Int) - 1)) : spec_PegsSeen.f k W H px py = some ((seenN W H px py : Int), true) ∧ impl_PegsSeen.f k W H px py = some ((seenN W H px py : Int), true) := by
  obtain ⟨k, rfl⟩ : ∃ m, k = m + 1 := ⟨k - 1, by omega⟩
  have cI : (1 ≤ (W : Int) ∧ (W : Int) ≤ 12) ∧ (1 ≤ (H : Int) ∧ (H : Int) ≤ 12) := by omega
  have hb : ∀ p ∈ rowsFrom H 0 W, (-(100 : Int) ≤ p.f0 ∧ p.f0 ≤ 100) ∧ (-(100 : Int) ≤ p.f1 ∧ p.f1 ≤ 100) := by
    intro p hp
    have := rows_bound H 0 W 100 (by omega) (by omega) p hp
    omega
  have hlen := rowsFrom_length H 0 W
  have hm : W * H ≤ 12 * 12 := Nat.mul_le_mul (by omega) (by omega)
  unfold spec_PegsSeen.f impl_PegsSeen.f
  rw [ctBoard_eq, isBoard_eq, Option.bind_some, Option.bind_some, decide_eq_true cI, if_pos rfl, if_pos rfl, isOnBoard_eq (W : Int) (H : Int) px py (by omega) (by omega), w64 (x := (W : Int) - 1) (by omega) (by omega), w64 (x := (H : Int) - 1) (by omega) (by omega), in_eq, in_eq]
  simp only [Option.bind_some]
  rw [decide_eq_true d, decide_eq_true d.1, decide_eq_true d.2, if_pos rfl]
  constructor
  · simp only [spec_PegsSeen.j0]
    rw [if_neg (by decide), ctPegs_eq k W H (by omega) (by omega) (by omega), Option.bind_some]
    have := seen_spec px py (by omega) (by omega) (rowsFrom H 0 W) (by omega) hb (rowsFrom H 0 W).length k 0 0 (by omega) (by omega) (by omega)
    rw [Nat.zero_add, List.drop_zero] at this
    exact this
  · simp only [impl_PegsSeen.j0]
    rw [if_neg (by decide), board_eq k W H (by omega) (by omega) (by omega), Option.bind_some]
    have := seen_impl px py (by omega) (by omega) (rowsFrom H 0 W) (by omega) hb (rowsFrom H 0 W).length k 0 0 (by omega) (by omega) (by omega)
    rw [Nat.zero_add, List.drop_zero] at this
    exact this
theorem countP_sumC (f : S36 → Bool) (l : List S36) : l.countP f = sumC (fun p => if f p then 1 else 0) l := by
  induction l with
  | nil => rfl
  | cons p l ih => rw [List.countP_cons, ih, sumC, Nat.add_comm]
/-- From the other corner as many are seen. -/
theorem seen_turn (W H : Nat) (px py : Int) : seenN W H ((W : Int) - 1 - px) ((H : Int) - 1 - py) = seenN W H px py := by
  unfold seenN
  rw [countP_sumC, countP_sumC, sumC_rows, sumC_rows, ← sumR_turn _ W]
  refine sumR_ext _ _ W 0 fun i _ hi => ?_
  rw [← sumR_turn _ H]
  refine sumR_ext _ _ H 0 fun j _ hj => ?_
  have e : seenB ((W : Int) - 1 - px) ((H : Int) - 1 - py) ⟨((W - 1 - i : Nat) : Int), ((H - 1 - j : Nat) : Int)⟩ = seenB px py ⟨(i : Int), (j : Int)⟩ := by
    unfold seenB
    dsimp only
    rw [show (W : Int) - 1 - px - ((W - 1 - i : Nat) : Int) = -(px - i) by omega, show (H : Int) - 1 - py - ((H - 1 - j : Nat) : Int) = -(py - j) by omega, Int.neg_gcd, Int.gcd_neg]
  rw [e]
theorem seen_less (W H : Nat) (px py : Int) (d : (0 ≤ px ∧ px ≤ (W : Int) - 1) ∧ (0 ≤ py ∧ py ≤ (H : Int) - 1)) : seenN W H px py < W * H := by
  have hlen := rowsFrom_length H 0 W
  unfold seenN
  rw [← hlen]
  have hmem : (⟨px, py⟩ : S36) ∈ rowsFrom H 0 W := by
    unfold rowsFrom
    rw [List.mem_flatMap]
    refine ⟨px.toNat, by rw [List.mem_range'_1]; omega, ?_⟩
    rw [List.mem_map]
    refine ⟨py.toNat, by rw [List.mem_range'_1]; omega, ?_⟩
    rw [show ((px.toNat : Nat) : Int) = px by omega, show ((py.toNat : Nat) : Int) = py by omega]
  have hle := List.countP_le_length (p := seenB px py) (l := rowsFrom H 0 W)
  refine Nat.lt_of_le_of_ne hle fun e => ?_
  have := List.countP_eq_length.1 e _ hmem
  simp [seenB] at this

theorem inside_line_0 : ∀ a b : Fin 12, spec_ctInLine.f 400 ((a.val : Int) + 1) ((b.val : Int) + 1) = some ((totalB_0 a.val b.val : Nat) : Int) := by decide +kernel
theorem inside_straight_1 : ∀ a b : Fin 12, spec_ctLines.f 400 ((a.val : Int) + 1) ((b.val : Int) + 1) 2 = some ((totalB_1 a.val b.val : Nat) : Int) := by decide +kernel
theorem inside_longest_2 : ∀ a b : Fin 12, spec_CountOnLongest.f 400 ((a.val : Int) + 1) ((b.val : Int) + 1) = some (((totalB_2 a.val b.val : Nat) : Int), true) := by decide +kernel

/-- Half of n less one times n, and the sixth of the next one too. -/
def halfV (n : Int) : Int := wrap64 (Int.tdiv (wrap64 (n * wrap64 (n - 1))) 2)
def sixV (n : Int) : Int := wrap64 (Int.tdiv (wrap64 (wrap64 (n * wrap64 (n - 1)) * wrap64 (n - 2))) 6)
theorem choose3_sixV : ∀ n : Fin 145, choose3 (n.val : Int) = sixV (n.val : Int) ∧ 0 ≤ sixV (n.val : Int) ∧ sixV (n.val : Int) ≤ 1000000 ∧ halfV (n.val : Int) = Int.tdiv ((n.val : Int) * ((n.val : Int) - 1)) 2 := by decide +kernel
theorem nFin (a b : Fin 12) : ∃ n : Fin 145, ((a.val : Int) + 1) * ((b.val : Int) + 1) = (n.val : Int) ∧ wrap64 (((a.val : Int) + 1) * ((b.val : Int) + 1)) = (n.val : Int) ∧ n.val = (a.val + 1) * (b.val + 1) := by
  have hm : (a.val + 1) * (b.val + 1) ≤ 12 * 12 := Nat.mul_le_mul (by omega) (by omega)
  have e : ((a.val : Int) + 1) * ((b.val : Int) + 1) = (((a.val + 1) * (b.val + 1) : Nat) : Int) := by
    rw [Int.natCast_mul, Int.natCast_add, Int.natCast_add]
    rfl
  refine ⟨⟨(a.val + 1) * (b.val + 1), by omega⟩, e, ?_, rfl⟩
  rw [e]
  exact w64 (by omega) (by omega)
def slV (w h : Int) : Int := ((spec_CountSlopes.f 400 w h).getD (0, false)).1
def brdOK (w h : Int) : Bool := match spec_CountSlopes.f 400 w h, impl_CountSlopes.f 400 w h, spec_ctLines.f 400 w h 2, spec_ctLines.f 400 h w 2, spec_CountOnLongest.f 400 w h, spec_ctInLine.f 400 w h with
  | some (x, true), some (y, true), some s, some s', some (lg, true), some L => decide (x = y ∧ s = s' ∧ x ≤ s ∧ s ≤ Int.tdiv ((w * h) * ((w * h) - 1)) 2 ∧ lg ≤ s ∧ 0 ≤ L ∧ L ≤ 1000000)
  | _, _, _, _, _, _ => false
theorem brd_ok : ∀ a b : Fin 12, brdOK ((a.val : Int) + 1) ((b.val : Int) + 1) = true := by decide +kernel
theorem brd_facts (a b : Fin 12) : spec_CountSlopes.f 400 ((a.val : Int) + 1) ((b.val : Int) + 1) = some (slV ((a.val : Int) + 1) ((b.val : Int) + 1), true) ∧ impl_CountSlopes.f 400 ((a.val : Int) + 1) ((b.val : Int) + 1) = some (slV ((a.val : Int) + 1) ((b.val : Int) + 1), true) ∧ totalB_1 a.val b.val = totalB_1 b.val a.val ∧ slV ((a.val : Int) + 1) ((b.val : Int) + 1) ≤ (totalB_1 a.val b.val : Int) ∧ (totalB_1 a.val b.val : Int) ≤ Int.tdiv ((((a.val : Int) + 1) * ((b.val : Int) + 1)) * ((((a.val : Int) + 1) * ((b.val : Int) + 1)) - 1)) 2 ∧ (totalB_2 a.val b.val : Int) ≤ (totalB_1 a.val b.val : Int) ∧ (totalB_0 a.val b.val : Int) ≤ 1000000 := by
  have h := brd_ok a b
  unfold brdOK at h
  unfold slV
  rw [inside_straight_1 a b, inside_straight_1 b a, inside_longest_2 a b, inside_line_0 a b] at h
  cases hs : spec_CountSlopes.f 400 ((a.val : Int) + 1) ((b.val : Int) + 1) with
  | none => rw [hs] at h; exact absurd h (by simp)
  | some p =>
    obtain ⟨x, bx⟩ := p
    rw [hs] at h
    cases hi : impl_CountSlopes.f 400 ((a.val : Int) + 1) ((b.val : Int) + 1) with
    | none => rw [hi] at h; cases bx <;> exact absurd h (by simp)
    | some q =>
      obtain ⟨y, by_⟩ := q
      rw [hi] at h
      cases bx <;> cases by_ <;> simp only [decide_eq_true_eq] at h <;> try (exact absurd h (by decide))
      obtain ⟨rfl, h2, h3, h4, h5, h6, h7⟩ := h
      exact ⟨rfl, rfl, by omega, h3, h4, h5, h7⟩

structure ValsIn (a b : Fin 12) (k : Nat) : Prop where
  tri1 : impl_CountTriangles.f k ((a.val : Int) + 1) ((b.val : Int) + 1) = some (wrap64 (sixV (wrap64 (((a.val : Int) + 1) * ((b.val : Int) + 1))) - (totalB_0 a.val b.val : Int)), true)
  tri2 : spec_CountTriangles.f k ((a.val : Int) + 1) ((b.val : Int) + 1) = some (wrap64 (sixV (wrap64 (((a.val : Int) + 1) * ((b.val : Int) + 1))) - (totalB_0 a.val b.val : Int)), true)
  line1 : impl_CountInLine.f k ((a.val : Int) + 1) ((b.val : Int) + 1) = some ((totalB_0 a.val b.val : Int), true)
  line2 : spec_CountInLine.f k ((a.val : Int) + 1) ((b.val : Int) + 1) = some ((totalB_0 a.val b.val : Int), true)
  slo1 : impl_CountSlopes.f k ((a.val : Int) + 1) ((b.val : Int) + 1) = some (slV ((a.val : Int) + 1) ((b.val : Int) + 1), true)
  slo2 : spec_CountSlopes.f k ((a.val : Int) + 1) ((b.val : Int) + 1) = some (slV ((a.val : Int) + 1) ((b.val : Int) + 1), true)
  str1 : impl_CountStraight.f k ((a.val : Int) + 1) ((b.val : Int) + 1) = some ((totalB_1 a.val b.val : Int), true)
  str2 : spec_CountStraight.f k ((a.val : Int) + 1) ((b.val : Int) + 1) = some ((totalB_1 a.val b.val : Int), true)
  lon1 : impl_CountOnLongest.f k ((a.val : Int) + 1) ((b.val : Int) + 1) = some ((totalB_2 a.val b.val : Int), true)
  lon2 : spec_CountOnLongest.f k ((a.val : Int) + 1) ((b.val : Int) + 1) = some ((totalB_2 a.val b.val : Int), true)
  gre1 : impl_GreatestTriangle.f ((a.val : Int) + 1) ((b.val : Int) + 1) = some (((a.val * b.val : Nat) : Int), true)
  gre2 : spec_GreatestTriangle.f ((a.val : Int) + 1) ((b.val : Int) + 1) = some (((a.val * b.val : Nat) : Int), true)
theorem great_eq (a b : Fin 12) : wrap64 (wrap64 ((a.val : Int) + 1 - 1) * wrap64 ((b.val : Int) + 1 - 1)) = ((a.val * b.val : Nat) : Int) := by
  have hm : a.val * b.val ≤ 12 * 12 := Nat.mul_le_mul (by omega) (by omega)
  rw [show (a.val : Int) + 1 - 1 = (a.val : Int) by omega, show (b.val : Int) + 1 - 1 = (b.val : Int) by omega, w64 (x := (a.val : Int)) (by omega) (by omega), w64 (x := (b.val : Int)) (by omega) (by omega), ← Int.natCast_mul]
  exact w64 (by omega) (by omega)
theorem vals_in (a b : Fin 12) (k : Nat) (hk : 21000000 ≤ k) : ValsIn a b k := by
  have c : (1 ≤ (a.val : Int) + 1 ∧ (a.val : Int) + 1 ≤ 12) ∧ (1 ≤ (b.val : Int) + 1 ∧ (b.val : Int) + 1 ≤ 12) := by omega
  obtain ⟨n, e1, e2, _⟩ := nFin a b
  have hc := (choose3_sixV n).1
  have hb := brd_facts a b
  have hl := at_rounds (g := fun k => spec_ctInLine.f k _ _) (spec_ctInLine.mono _ _) (show 400 ≤ k by omega) (inside_line_0 a b)
  constructor
  · unfold impl_CountTriangles.f impl_inLine.f
    rw [isBoard_eq, Option.bind_some, decide_eq_true c, if_pos rfl, e2, choose3_eq k _ (by omega), hc, straight_eq_0 k a b hk]
    rfl
  · unfold spec_CountTriangles.f
    rw [ctBoard_eq, Option.bind_some, decide_eq_true c, if_pos rfl, hl]
    rfl
  · unfold impl_CountInLine.f impl_inLine.f
    rw [isBoard_eq, Option.bind_some, decide_eq_true c, if_pos rfl, straight_eq_0 k a b hk]
    rfl
  · unfold spec_CountInLine.f
    rw [ctBoard_eq, Option.bind_some, decide_eq_true c, if_pos rfl, hl]
    rfl
  · exact at_rounds (g := fun k => impl_CountSlopes.f k _ _) (impl_CountSlopes.mono _ _) (show 400 ≤ k by omega) hb.2.1
  · exact at_rounds (g := fun k => spec_CountSlopes.f k _ _) (spec_CountSlopes.mono _ _) (show 400 ≤ k by omega) hb.1
  · unfold impl_CountStraight.f
    rw [isBoard_eq, Option.bind_some, decide_eq_true c, if_pos rfl, straight_eq_1 k a b hk]
    rfl
  · unfold spec_CountStraight.f
    rw [ctBoard_eq, Option.bind_some, decide_eq_true c, if_pos rfl, at_rounds (g := fun k => spec_ctLines.f k _ _ _) (spec_ctLines.mono _ _ _) (show 400 ≤ k by omega) (inside_straight_1 a b)]
    rfl
  · unfold impl_CountOnLongest.f
    rw [isBoard_eq, Option.bind_some, decide_eq_true c, if_pos rfl, straight_eq_2 k a b hk]
    rfl
  · exact at_rounds (g := fun k => spec_CountOnLongest.f k _ _) (spec_CountOnLongest.mono _ _) (show 400 ≤ k by omega) (inside_longest_2 a b)
  · unfold impl_GreatestTriangle.f
    rw [isBoard_eq, Option.bind_some, decide_eq_true c, if_pos rfl, great_eq a b]
  · unfold spec_GreatestTriangle.f
    rw [ctBoard_eq, Option.bind_some, decide_eq_true c, if_pos rfl, great_eq a b]
structure ValsOut (w h : Int) (k : Nat) : Prop where
  tri1 : impl_CountTriangles.f k w h = some (0, false)
  tri2 : spec_CountTriangles.f k w h = some (0, false)
  line1 : impl_CountInLine.f k w h = some (0, false)
  line2 : spec_CountInLine.f k w h = some (0, false)
  slo1 : impl_CountSlopes.f k w h = some (0, false)
  slo2 : spec_CountSlopes.f k w h = some (0, false)
  str1 : impl_CountStraight.f k w h = some (0, false)
  str2 : spec_CountStraight.f k w h = some (0, false)
  lon1 : impl_CountOnLongest.f k w h = some (0, false)
  lon2 : spec_CountOnLongest.f k w h = some (0, false)
  gre1 : impl_GreatestTriangle.f w h = some (0, false)
  gre2 : spec_GreatestTriangle.f w h = some (0, false)
theorem vals_out (w h : Int) (c : ¬ ((1 ≤ w ∧ w ≤ 12) ∧ (1 ≤ h ∧ h ≤ 12))) (k : Nat) : ValsOut w h k := by
  constructor
  · unfold impl_CountTriangles.f
    rw [isBoard_eq, Option.bind_some, decide_eq_false c, if_neg (by decide)]
  · unfold spec_CountTriangles.f
    rw [ctBoard_eq, Option.bind_some, decide_eq_false c, if_neg (by decide)]
  · unfold impl_CountInLine.f
    rw [isBoard_eq, Option.bind_some, decide_eq_false c, if_neg (by decide)]
  · unfold spec_CountInLine.f
    rw [ctBoard_eq, Option.bind_some, decide_eq_false c, if_neg (by decide)]
  · unfold impl_CountSlopes.f
    rw [isBoard_eq, Option.bind_some, decide_eq_false c, if_neg (by decide)]
  · unfold spec_CountSlopes.f
    rw [ctBoard_eq, Option.bind_some, decide_eq_false c, if_neg (by decide)]
  · unfold impl_CountStraight.f
    rw [isBoard_eq, Option.bind_some, decide_eq_false c, if_neg (by decide)]
  · unfold spec_CountStraight.f
    rw [ctBoard_eq, Option.bind_some, decide_eq_false c, if_neg (by decide)]
  · unfold impl_CountOnLongest.f
    rw [isBoard_eq, Option.bind_some, decide_eq_false c, if_neg (by decide)]
  · unfold spec_CountOnLongest.f
    rw [ctBoard_eq, Option.bind_some, decide_eq_false c, if_neg (by decide)]
  · unfold impl_GreatestTriangle.f
    rw [isBoard_eq, Option.bind_some, decide_eq_false c, if_neg (by decide)]
  · unfold spec_GreatestTriangle.f
    rw [ctBoard_eq, Option.bind_some, decide_eq_false c, if_neg (by decide)]

def ar (a b c : S36) : Nat := (tri a.f0 a.f1 b.f0 b.f1 c.f0 c.f1).natAbs
def F2 (a b : S36) : List S36 → List Nat
  | [] => []
  | c :: l => ar a b c :: F2 a b l
def F1 (L : List S36) (a : S36) : Nat → Nat → List Nat
  | 0, _ => []
  | d + 1, j => F2 a (L.getD j z36) (L.take j) ++ F1 L a d (j + 1)
def F0 (L : List S36) : Nat → Nat → List Nat
  | 0, _ => []
  | d + 1, i => F1 L (L.getD i z36) i 0 ++ F0 L d (i + 1)
def cE (t : Nat) : List Nat → Nat
  | [] => 0
  | x :: l => Nat.add (if x = t then 1 else 0) (cE t l)
def cLe (g : Nat) : List Nat → Nat
  | [] => 0
  | x :: l => Nat.add (if x ≤ g then 1 else 0) (cLe g l)
theorem cE_append (t : Nat) (x y : List Nat) : cE t (x ++ y) = cE t x + cE t y := by
  induction x with
  | nil => simp [cE]
  | cons p l ih => simp only [List.cons_append, cE, ih, Nat.add_eq]; omega
theorem cE_le (t : Nat) (x : List Nat) : cE t x ≤ x.length := by
  induction x with
  | nil => simp [cE]
  | cons p l ih => simp only [cE, Nat.add_eq, List.length_cons]; split <;> omega
theorem cLe_zero (l : List Nat) : cLe 0 l = cE 0 l := by
  induction l with
  | nil => rfl
  | cons p l ih =>
    simp only [cE, cLe, ih, Nat.add_eq]
    by_cases h : p = 0
    · simp [h]
    · rw [if_neg (by omega), if_neg h]
theorem cLe_succ (g : Nat) (l : List Nat) : cLe (g + 1) l = cLe g l + cE (g + 1) l := by
  induction l with
  | nil => rfl
  | cons p l ih =>
    simp only [cE, cLe, ih, Nat.add_eq]
    by_cases h1 : p ≤ g
    · rw [if_pos (by omega), if_pos h1, if_neg (by omega)]; omega
    · by_cases h2 : p = g + 1
      · rw [if_pos (by omega), if_neg h1, if_pos h2]; omega
      · rw [if_neg (by omega), if_neg h1, if_neg h2]; omega
theorem cLe_mono (g : Nat) (l : List Nat) : cE 0 l ≤ cLe g l := by
  induction g with
  | zero => rw [cLe_zero]; exact Nat.le_refl _
  | succ g ih => rw [cLe_succ]; omega
theorem cLe_le (g : Nat) (l : List Nat) : cLe g l ≤ l.length := by
  induction l with
  | nil => simp [cLe]
  | cons p l ih => simp only [cLe, Nat.add_eq, List.length_cons]; split <;> omega
theorem cLe_all (g : Nat) (l : List Nat) (h : ∀ x ∈ l, x ≤ g) : cLe g l = l.length := by
  induction l with
  | nil => rfl
  | cons p l ih =>
    simp only [cLe, Nat.add_eq, List.length_cons]
    rw [if_pos (h p (by simp)), ih fun x hx => h x (by simp [hx])]
    omega
theorem cE_has (t : Nat) (l : List Nat) (h : t ∈ l) : 1 ≤ cE t l := by
  induction l with
  | nil => simp at h
  | cons p l ih =>
    simp only [cE, Nat.add_eq]
    rcases List.mem_cons.1 h with e | e
    · rw [if_pos e.symm]; omega
    · have := ih e
      omega
theorem visT_ar (t : Nat) (a b c : S36) (acc : Nat) (h : acc ≤ 1000000000000) : visT (t : Int) a b c (acc : Int) = ((acc + (if ar a b c = t then 1 else 0) : Nat) : Int) := by
  have e : (((tri a.f0 a.f1 b.f0 b.f1 c.f0 c.f1).natAbs : Int) = (t : Int)) ↔ ar a b c = t := by unfold ar; omega
  unfold visT
  by_cases c0 : ar a b c = t
  · rw [if_pos (e.2 c0), if_pos c0, w64 (by omega) (by omega)]; rfl
  · rw [if_neg (fun q => c0 (e.1 q)), if_neg c0]; rfl
theorem T2_ar (t : Nat) (a b : S36) (C : List S36) : ∀ acc : Nat, acc + (F2 a b C).length ≤ 1000000000000 → T2 (t : Int) a b C (acc : Int) = ((acc + cE t (F2 a b C) : Nat) : Int) := by
  induction C with
  | nil => intro acc _; rfl
  | cons c l ih =>
    intro acc h
    simp only [F2, List.length_cons] at h
    rw [T2, visT_ar t a b c acc (by omega), ih _ (by split <;> omega), F2, cE, Nat.add_assoc]
    rfl
theorem T1_ar (t : Nat) (L : List S36) (a : S36) (d : Nat) : ∀ (j acc : Nat), acc + (F1 L a d j).length ≤ 1000000000000 → T1 (t : Int) L a d j (acc : Int) = ((acc + cE t (F1 L a d j) : Nat) : Int) := by
  induction d with
  | zero => intro j acc _; rfl
  | succ d ih =>
    intro j acc h
    simp only [F1, List.length_append] at h
    have hc := cE_le t (F2 a (L.getD j z36) (L.take j))
    rw [T1, T2_ar t a _ _ acc (by omega), ih _ _ (by omega), F1, cE_append, Nat.add_assoc]
theorem T0_ar (t : Nat) (L : List S36) (d : Nat) : ∀ (i acc : Nat), acc + (F0 L d i).length ≤ 1000000000000 → T0 (t : Int) L d i (acc : Int) = ((acc + cE t (F0 L d i) : Nat) : Int) := by
  induction d with
  | zero => intro i acc _; rfl
  | succ d ih =>
    intro i acc h
    simp only [F0, List.length_append] at h
    have hc := cE_le t (F1 L (L.getD i z36) i 0)
    rw [T0, T1_ar t L _ _ _ acc (by omega), ih _ _ (by omega), F0, cE_append, Nat.add_assoc]
theorem area_both (w h tw : Int) (k : Nat) (hk : 11000000001 ≤ k) : ∃ r, spec_CountOfArea.f k w h tw = some r ∧ impl_CountOfArea.f k w h tw = some r ∧ (∀ (W H : Nat), w = W → h = H → (1 ≤ W ∧ W ≤ 6) → (1 ≤ H ∧ H ≤ 6) → (0 ≤ tw ∧ tw ≤ 200) → r = (T0 tw (rowsFrom H 0 W) (rowsFrom H 0 W).length 0 0, true)) := by
  obtain ⟨k, rfl⟩ : ∃ m, k = m + 1 := ⟨k - 1, by omega⟩
  unfold spec_CountOfArea.f impl_CountOfArea.f
  rw [ctBoardM w h 6 (by omega), isBoardM w h 6 (by omega), Option.bind_some, Option.bind_some]
  by_cases c : (1 ≤ w ∧ w ≤ 6) ∧ (1 ≤ h ∧ h ≤ 6)
  · rw [decide_eq_true c, if_pos rfl, if_pos rfl, in_eq, within_eq, Option.bind_some, Option.bind_some]
    by_cases c2 : 0 ≤ tw ∧ tw ≤ 200
    · rw [decide_eq_true c2]
      obtain ⟨W, rfl⟩ : ∃ W : Nat, w = W := ⟨w.toNat, by omega⟩
      obtain ⟨H, rfl⟩ : ∃ H : Nat, h = H := ⟨h.toNat, by omega⟩
      have hb : ∀ p ∈ rowsFrom H 0 W, inB p := by
        intro p hp
        have := rows_bound H 0 W 100 (by omega) (by omega) p hp
        unfold inB
        omega
      have hlen := rowsFrom_length H 0 W
      have hm : W * H ≤ 6 * 6 := Nat.mul_le_mul (by omega) (by omega)
      refine ⟨(T0 tw (rowsFrom H 0 W) (rowsFrom H 0 W).length 0 0, true), ?_, ?_, ?_⟩
      · simp only [spec_CountOfArea.j0]
        rw [if_neg (by decide), ctPegs_eq k W H (by omega) (by omega) (by omega), Option.bind_some]
        exact areaS_l0 tw (rowsFrom H 0 W) hb (by omega) (rowsFrom H 0 W).length k 0 0 (by omega) (by omega)
      · simp only [impl_CountOfArea.j0]
        rw [if_neg (by decide), board_eq k W H (by omega) (by omega) (by omega), Option.bind_some]
        unfold impl_threes.f
        have := threes_l0 tw (rowsFrom H 0 W) hb (by omega) (rowsFrom H 0 W).length k 0 0 (by omega) (by omega)
        rw [show ((0 : Nat) : Int) = 0 from rfl] at this
        rw [this, Option.bind_some]
      · intro W' H' e1 e2 _ _ _
        obtain rfl : W = W' := by omega
        obtain rfl : H = H' := by omega
        rfl
    · rw [decide_eq_false c2]
      exact ⟨(0, false), rfl, rfl, fun _ _ _ _ _ _ e => absurd e c2⟩
  · rw [decide_eq_false c, if_neg (by decide), if_neg (by decide)]
    exact ⟨(0, false), rfl, rfl, fun _ _ e1 e2 e3 e4 _ => absurd (by omega) c⟩
/-- The areas of all threes of a board. -/
def AR (a b : Nat) : List Nat := F0 (rowsFrom (b + 1) 0 (a + 1)) (rowsFrom (b + 1) 0 (a + 1)).length 0
def areaOK (a b : Nat) : Bool := match spec_ctInLine.f 400 ((a : Int) + 1) ((b : Int) + 1) with
  | some L => decide ((AR a b).length = sixV (((a + 1) * (b + 1) : Nat) : Int)) && (decide ((cE 0 (AR a b) : Int) = L) && ((AR a b).all (fun x => Nat.ble x (Nat.mul a b)) && (Nat.beq (Nat.mul a b) 0 || (AR a b).any (fun x => Nat.beq x (Nat.mul a b)))))
  | none => false
theorem area_ok : ∀ a b : Fin 5, areaOK a.val b.val = true := by decide +kernel
theorem area_facts (a b : Fin 12) (h : a.val < 5 ∧ b.val < 5) : ((AR a.val b.val).length : Int) = sixV (((a.val + 1) * (b.val + 1) : Nat) : Int) ∧ cE 0 (AR a.val b.val) = totalB_0 a.val b.val ∧ (∀ x ∈ AR a.val b.val, x ≤ a.val * b.val) ∧ (a.val * b.val = 0 ∨ a.val * b.val ∈ AR a.val b.val) := by
  have h1 := area_ok ⟨a.val, h.1⟩ ⟨b.val, h.2⟩
  unfold areaOK at h1
  dsimp only at h1
  rw [inside_line_0 a b] at h1
  simp only [Bool.and_eq_true, decide_eq_true_eq, List.all_eq_true, Nat.ble_eq, Bool.or_eq_true, List.any_eq_true, Nat.mul_eq] at h1
  obtain ⟨h2, h3, h4, h5⟩ := h1
  refine ⟨h2, by omega, h4, ?_⟩
  rcases h5 with h5 | ⟨x, hx, e⟩
  · exact .inl (Nat.eq_of_beq_eq_true h5)
  · exact .inr (Nat.eq_of_beq_eq_true e ▸ hx)
theorem area_at (a b : Fin 12) (h : a.val < 5 ∧ b.val < 5) (t : Nat) (ht : t ≤ 200) (k : Nat) (hk : 11000000001 ≤ k) : impl_CountOfArea.f k ((a.val : Int) + 1) ((b.val : Int) + 1) (t : Int) = some ((cE t (AR a.val b.val) : Int), true) := by
  obtain ⟨r, _, h2, h3⟩ := area_both ((a.val : Int) + 1) ((b.val : Int) + 1) (t : Int) k hk
  rw [h2, h3 (a.val + 1) (b.val + 1) (by omega) (by omega) (by omega) (by omega) (by omega)]
  have hf := (area_facts a b h).1
  have hs := choose3_sixV ⟨(a.val + 1) * (b.val + 1), by
    have := Nat.mul_le_mul (show a.val + 1 ≤ 12 by omega) (show b.val + 1 ≤ 12 by omega)
    omega⟩
  dsimp only at hs
  have := T0_ar t (rowsFrom (b.val + 1) 0 (a.val + 1)) (rowsFrom (b.val + 1) 0 (a.val + 1)).length 0 0 (by
    have : (F0 (rowsFrom (b.val + 1) 0 (a.val + 1)) (rowsFrom (b.val + 1) 0 (a.val + 1)).length 0).length = (AR a.val b.val).length := rfl
    omega)
  rw [Nat.zero_add] at this
  exact congrArg (fun x => some (x, true)) this

theorem tail_facts (l1 : List Int) (hb : bytesP l1) (k : Nat) (hk : 11000000010 ≤ k) : ∃ a b t v1 o1 c d s v2 o2 e_ f px py v3 o3, TailF k l1 a b t v1 o1 c d s v2 o2 e_ f px py v3 o3 := by
  obtain ⟨w1, h1, t1, e1⟩ := drawA_some l1 hb
  obtain ⟨w2, h2, s2, e2⟩ := drawP_some l1 hb
  obtain ⟨w3, h3, x3, y3, e3⟩ := drawS_some l1 hb
  obtain ⟨⟨v1, o1⟩, a1, b1, _⟩ := area_both w1 h1 t1 k (by omega)
  obtain ⟨⟨v2, o2⟩, a2, b2⟩ := pairs_both w2 h2 s2 k (by omega)
  by_cases c : ((1 ≤ w3 ∧ w3 ≤ 12) ∧ (1 ≤ h3 ∧ h3 ≤ 12)) ∧ ((0 ≤ x3 ∧ x3 ≤ w3 - 1) ∧ (0 ≤ y3 ∧ y3 ≤ h3 - 1))
  · obtain ⟨W, rfl⟩ : ∃ W : Nat, w3 = W := ⟨w3.toNat, by omega⟩
    obtain ⟨H, rfl⟩ : ∃ H : Nat, h3 = H := ⟨h3.toNat, by omega⟩
    have s := seen_in W H x3 y3 k (by omega) (by omega) c.2
    refine ⟨w1, h1, t1, v1, o1, w2, h2, s2, v2, o2, W, H, x3, y3, _, true, e1, b1, a1, e2, b2, a2, e3, s.2, s.1, fun _ => ?_⟩
    rw [w64 (x := (W : Int) - 1) (by omega) (by omega), w64 (x := (H : Int) - 1) (by omega) (by omega), w64 (x := (W : Int) - 1 - x3) (by omega) (by omega), w64 (x := (H : Int) - 1 - y3) (by omega) (by omega)]
    have s' := (seen_in W H ((W : Int) - 1 - x3) ((H : Int) - 1 - y3) k (by omega) (by omega) (by omega)).2
    have hm : W * H ≤ 12 * 12 := Nat.mul_le_mul (by omega) (by omega)
    have hl := seen_less W H x3 y3 c.2
    rw [seen_turn] at s'
    rw [← Int.natCast_mul, w64 (by omega) (by omega)]
    exact ⟨s', by omega⟩
  · have s := seen_out w3 h3 x3 y3 k (by omega) c
    exact ⟨w1, h1, t1, v1, o1, w2, h2, s2, v2, o2, w3, h3, x3, y3, _, false, e1, b1, a1, e2, b2, a2, e3, s.2, s.1, fun e => absurd e (by decide)⟩

/-- The pairs of up to n steps. -/
def pairTo (w h : Int) : Nat → Int
  | 0 => 0
  | n + 1 => pairTo w h n + pairV w h ((n : Int) + 1)
theorem pairs_all : ∀ a b : Fin 12, pairTo ((a.val : Int) + 1) ((b.val : Int) + 1) 12 = Int.tdiv ((((a.val : Int) + 1) * ((b.val : Int) + 1)) * ((((a.val : Int) + 1) * ((b.val : Int) + 1)) - 1)) 2 := by decide +kernel
theorem pairTo_bd (w h : Int) (c : (1 ≤ w ∧ w ≤ 12) ∧ (1 ≤ h ∧ h ≤ 12)) (n : Nat) (hn : n ≤ 12) : 0 ≤ pairTo w h n ∧ pairTo w h n ≤ 1000000 * n := by
  induction n with
  | zero => simp [pairTo]
  | succ n ih =>
    have := ih (by omega)
    have p := (pairs_in w h ((n : Int) + 1) c (by omega) 200 (by omega)).2.2
    rw [pairTo]
    omega
theorem ok_facts (a b : Fin 12) (k : Nat) (hk : 21000000 ≤ k) : OkF k ((a.val : Int) + 1) ((b.val : Int) + 1) (wrap64 (sixV (wrap64 (((a.val : Int) + 1) * ((b.val : Int) + 1))) - (totalB_0 a.val b.val : Int))) (totalB_0 a.val b.val : Int) (slV ((a.val : Int) + 1) ((b.val : Int) + 1)) (totalB_1 a.val b.val : Int) (totalB_2 a.val b.val : Int) ((a.val * b.val : Nat) : Int) (fun s => pairTo ((a.val : Int) + 1) ((b.val : Int) + 1) (s - 1)) := by
  have c : (1 ≤ (a.val : Int) + 1 ∧ (a.val : Int) + 1 ≤ 12) ∧ (1 ≤ (b.val : Int) + 1 ∧ (b.val : Int) + 1 ≤ 12) := by omega
  obtain ⟨n, e1, e2, e3⟩ := nFin a b
  have hs := choose3_sixV n
  have hf := brd_facts a b
  have hp := pairs_all a b
  rw [e1] at hf hp
  constructor
  · rfl
  · intro s h1 h2
    obtain ⟨m, rfl⟩ : ∃ m, s = m + 1 := ⟨s - 1, by omega⟩
    have p := pairs_in ((a.val : Int) + 1) ((b.val : Int) + 1) ((m : Int) + 1) c (by omega) k (by omega)
    have q := pairTo_bd ((a.val : Int) + 1) ((b.val : Int) + 1) c m (by omega)
    refine ⟨_, p.2.1, ?_⟩
    show wrap64 (pairTo _ _ m + _) = pairTo _ _ (m + 1)
    rw [w64 (by omega) (by omega)]
    rfl
  · have := (vals_in b a k hk).str1
    rw [← hf.2.2.1] at this
    exact this
  · show pairTo _ _ 12 = _
    rw [hp, e2]
    exact hs.2.2.2.symm
  · rw [e2]
    show wrap64 (wrap64 (sixV (n.val : Int) - _) + _) = sixV (n.val : Int)
    have ht : wrap64 (sixV (n.val : Int) - (totalB_0 a.val b.val : Int)) = sixV (n.val : Int) - (totalB_0 a.val b.val : Int) := w64 (by omega) (by omega)
    rw [ht, w64 (by omega) (by omega)]
    omega
  · omega
  · show ¬ _ > pairTo _ _ 12
    omega
  · omega
  · exact (great_eq a b).symm
theorem small_step (p q r : Nat) (hp : p ≤ 1000000) (hq : q ≤ 1000000) (hr : r ≤ p) : wrap64 ((p : Int) - r + q) = ((p + q : Nat) : Int) - r := by
  rw [w64 (by omega) (by omega)]
  omega
theorem sub_small (p q : Int) (hp : 0 ≤ p ∧ p ≤ 1000000) (hq : 0 ≤ q ∧ q ≤ 1000000) : wrap64 (p - q) = p - q := w64 (by omega) (by omega)
theorem not_small (v : Nat) (h : 1 ≤ v) : ¬ (v : Int) < 1 := by omega
theorem small_facts (a b : Fin 12) (h : a.val < 5 ∧ b.val < 5) (k : Nat) (hk : 11000000010 ≤ k) : SmallF k ((a.val : Int) + 1) ((b.val : Int) + 1) (wrap64 (sixV (wrap64 (((a.val : Int) + 1) * ((b.val : Int) + 1))) - (totalB_0 a.val b.val : Int))) (totalB_0 a.val b.val : Int) ((a.val * b.val : Nat) : Int) (a.val * b.val) (fun s => (cLe (s - 1) (AR a.val b.val) : Int) - (cE 0 (AR a.val b.val) : Int)) := by
  obtain ⟨f1, f2, f3, f4⟩ := area_facts a b h
  obtain ⟨n, e1, e2, e3⟩ := nFin a b
  have hm : a.val * b.val ≤ 5 * 5 := Nat.mul_le_mul (by omega) (by omega)
  have hs : _ ∧ (0 ≤ sixV (n.val : Int) ∧ sixV (n.val : Int) ≤ 1000000) := ⟨(choose3_sixV n).1, (choose3_sixV n).2.1, (choose3_sixV n).2.2.1⟩
  have hk' : 11000000001 ≤ k := by omega
  rw [← e3] at f1
  constructor
  · rfl
  · omega
  · show (cLe 0 _ : Int) - _ = 0
    rw [cLe_zero, Int.sub_self]
  · intro s h1 h2
    obtain ⟨m, rfl⟩ : ∃ m, s = m + 1 := ⟨s - 1, by omega⟩
    have b1 := cLe_mono m (AR a.val b.val)
    have b2 := cLe_le m (AR a.val b.val)
    have b3 := cE_le (m + 1) (AR a.val b.val)
    have sc := cLe_succ m (AR a.val b.val)
    have hlen : (AR a.val b.val).length ≤ 1000000 := by
      have q := hs.2.2
      rw [← f1] at q
      exact Int.ofNat_le.1 q
    refine ⟨_, area_at a b h (m + 1) (by omega) k hk', ?_, fun hg => ?_⟩
    · show wrap64 (((cLe m (AR a.val b.val) : Nat) : Int) - _ + _) = ((cLe (m + 1) (AR a.val b.val) : Nat) : Int) - _
      rw [sc]
      exact small_step _ _ _ (Nat.le_trans b2 hlen) (Nat.le_trans b3 hlen) b1
    · refine not_small _ ?_
      rcases f4 with f4 | f4
      · exact absurd f4 (by omega)
      · exact cE_has _ _ (hg ▸ f4)
  · show (cLe (a.val * b.val) _ : Int) - _ = _
    have ht : wrap64 (sixV (n.val : Int) - (totalB_0 a.val b.val : Int)) = sixV (n.val : Int) - (totalB_0 a.val b.val : Int) := sub_small _ _ hs.2 (And.intro (Int.natCast_nonneg _) (brd_facts a b).2.2.2.2.2.2)
    rw [cLe_all _ _ f3, e2, ht, f1, f2]
  · have q := area_at a b h 0 (by omega) k hk'
    rw [f2] at q
    exact q


theorem head_in (a b : Fin 12) (l0 : List Int) (e : spec_DrawCountTriangles.f l0 = some ((a.val : Int) + 1, (b.val : Int) + 1)) (k : Nat) (v : ValsIn a b k) : HeadF k l0 ((a.val : Int) + 1) ((b.val : Int) + 1) (wrap64 (sixV (wrap64 (((a.val : Int) + 1) * ((b.val : Int) + 1))) - (totalB_0 a.val b.val : Int))) (totalB_0 a.val b.val : Int) (slV ((a.val : Int) + 1) ((b.val : Int) + 1)) (totalB_1 a.val b.val : Int) (totalB_2 a.val b.val : Int) ((a.val * b.val : Nat) : Int) true :=
  ⟨e, v.tri1, v.tri2, v.line1, v.line2, v.slo1, v.slo2, v.str1, v.str2, v.lon1, v.lon2, v.gre1, v.gre2⟩
theorem boards_runs (l0 l1 : List Int) (h0 : l0.length ≤ maxLen) (h1 : ∀ x ∈ l0, 0 ≤ x ∧ x ≤ 255) (h2 : l1.length ≤ maxLen) (h3 : ∀ x ∈ l1, 0 ≤ x ∧ x ≤ 255) {A0 : Option Addr} {c0 : Nat} {A1 : Option Addr} {c1 : Nat} {w : World} (hr0 : Kd.C (Kd.int .u8) w A0 l0.length l0) (hc0 : l0.length ≤ c0) (hr1 : Kd.C (Kd.int .u8) w A1 l1.length l1) (hc1 : l1.length ≤ c1) :
    Calls Try.prog 4 #[.slice A0 l0.length c0, .slice A1 l1.length c1] w fun e w' => e = .returned (.bool true) ∧ Below w.heap.size w w' := by
  obtain ⟨k, hk⟩ : ∃ k : Nat, 11000002000 ≤ k := ⟨11000002000, Nat.le_refl _⟩
  have hb0 : bytesP l0 := ⟨by unfold maxLen at h0; omega, h1⟩
  have hb1 : bytesP l1 := ⟨by unfold maxLen at h2; omega, h3⟩
  obtain ⟨t, ht⟩ : ∃ t, laws_big.f l0 l1 = some t := by
    unfold laws_big.f
    split
    · exact ⟨_, rfl⟩
    · exact ⟨_, rfl⟩
  cases t with
  | true => exact boards_big ht hr0 hc0 hr1 hc1
  | false =>
    obtain ⟨x, y, e⟩ := drawT_some l0 hb0
    obtain ⟨ta, tb, tt, v1, o1, tc, td, ts, v2, o2, te, tf, px, py, v3, o3, G⟩ := tail_facts l1 hb1 k (by omega)
    by_cases c : (1 ≤ x ∧ x ≤ 12) ∧ (1 ≤ y ∧ y ≤ 12)
    · obtain ⟨a, b, rfl, rfl⟩ := fins x y c
      exact boards_head (head_in a b l0 e k (vals_in a b k (by omega))) ht (fun _ => ⟨_, ok_facts a b k (by omega)⟩) (fun _ q1 q2 => ⟨_, _, small_facts a b (by omega) k (by omega)⟩) G hr0 hc0 hr1 hc1
    · have v := vals_out x y c k
      exact boards_head ⟨e, v.tri1, v.tri2, v.line1, v.line2, v.slo1, v.slo2, v.str1, v.str2, v.lon1, v.lon2, v.gre1, v.gre2⟩ ht (fun e => absurd e (by decide)) (fun e => absurd e (by decide)) G hr0 hc0 hr1 hc1

end Go.Proofs.Ytmenfomcikfnmaa.Pure
