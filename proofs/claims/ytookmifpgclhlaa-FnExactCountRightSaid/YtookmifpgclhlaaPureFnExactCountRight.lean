/- The program's CountRight returns what the reference's returns, for all arguments. No condition. -/
import Derived.Test.YtookmifpgclhlaaMRx0
import Derived.Test.YtookmifpgclhlaaMRx2
import Derived.Test.YtookmifpgclhlaaMRx3
import Derived.Test.YtookmifpgclhlaaMRx4
import Derived.Test.YtookmifpgclhlaaMRx5
import Derived.Test.YtookmifpgclhlaaMRx6
import Derived.Test.YtookmifpgclhlaaMRx7
import Derived.Test.YtookmifpgclhlaaMRx8
import Derived.Test.YtookmifpgclhlaaMRx9
import Derived.Test.YtookmifpgclhlaaV
namespace Go.Proofs.Ytookmifpgclhlaa.Pure
open Go.RowKit Go.Proofs.YtookmifpgclhlaaV Go.Proofs.Ytookmifpgclhlaa.MR Go.Proofs.YtookmifpgclhlaaW.PrintWords Go.Proofs.YtookmifpgclhlaaW.PrintLast Go.Proofs.YtookmifpgclhlaaW.PrintMore

theorem in_eq (a lo hi : Int) : spec_l1In.f a lo hi = some (decide (lo ≤ a ∧ a ≤ hi)) := by
  unfold spec_l1In.f
  by_cases h : lo ≤ a
  · rw [if_pos h]; simp [h]
  · rw [if_neg h]; simp [h]

theorem within_eq (a lo hi : Int) : impl_within.f a lo hi = some (decide (lo ≤ a ∧ a ≤ hi)) := by
  unfold impl_within.f
  by_cases h : lo ≤ a
  · rw [if_pos h]; simp [h]
  · rw [if_neg h]; simp [h]

theorem w64 {x : Int} (h0 : -9223372036854775808 ≤ x) (h1 : x ≤ 9223372036854775807) : wrap64 x = x := by
  unfold wrap64
  omega

theorem mul_bd {x y : Int} (A B : Nat) (hx : -(A : Int) ≤ x ∧ x ≤ A) (hy : -(B : Int) ≤ y ∧ y ≤ B) : -((A * B : Nat) : Int) ≤ x * y ∧ x * y ≤ ((A * B : Nat) : Int) := by
  have h1 : x.natAbs ≤ A := by omega
  have h2 : y.natAbs ≤ B := by omega
  have h3 := Nat.mul_le_mul h1 h2
  rw [← Int.natAbs_mul] at h3
  omega

/-- Twice the area of three points. -/
def tri (ax ay bx by_ cx cy : Int) : Int := (bx - ax) * (cy - ay) - (by_ - ay) * (cx - ax)

theorem turn_eq (M : Nat) (hM : M ≤ 1000000) {ax ay bx by_ cx cy : Int} (h1 : -(M : Int) ≤ ax ∧ ax ≤ M) (h2 : -(M : Int) ≤ ay ∧ ay ≤ M) (h3 : -(M : Int) ≤ bx ∧ bx ≤ M) (h4 : -(M : Int) ≤ by_ ∧ by_ ≤ M) (h5 : -(M : Int) ≤ cx ∧ cx ≤ M) (h6 : -(M : Int) ≤ cy ∧ cy ≤ M) :
    impl_turn.f ax ay bx by_ cx cy = some (tri ax ay bx by_ cx cy) := by
  unfold impl_turn.f impl_Peg_less.f impl_cross.f tri
  simp only [Option.bind_some]
  rw [w64 (x := bx - ax) (by omega) (by omega), w64 (x := cy - ay) (by omega) (by omega), w64 (x := by_ - ay) (by omega) (by omega), w64 (x := cx - ax) (by omega) (by omega)]
  have q1 := mul_bd 2000000 2000000 (x := bx - ax) (y := cy - ay) (by omega) (by omega)
  have q2 := mul_bd 2000000 2000000 (x := by_ - ay) (y := cx - ax) (by omega) (by omega)
  rw [w64 (x := (bx - ax) * (cy - ay)) (by omega) (by omega), w64 (x := (by_ - ay) * (cx - ax)) (by omega) (by omega), w64 (by omega) (by omega)]

/-- The pegs of a board from column x on, e columns. -/
def rowsFrom (h x e : Nat) : List S30 := (List.range' x e).flatMap fun (x : Nat) => (List.range' 0 h).map fun (y : Nat) => (⟨(x : Int), (y : Int)⟩ : S30)
def colFrom (x y d : Nat) : List S30 := (List.range' y d).map fun (y : Nat) => (⟨(x : Int), (y : Int)⟩ : S30)
theorem colFrom_succ (x y d : Nat) : colFrom x y (d + 1) = (⟨(x : Int), (y : Int)⟩ : S30) :: colFrom x (y + 1) d := by
  simp [colFrom, List.range'_succ]
theorem rowsFrom_succ (h x e : Nat) : rowsFrom h x (e + 1) = colFrom x 0 h ++ rowsFrom h (x + 1) e := by
  simp [rowsFrom, colFrom, List.range'_succ]
theorem rowsFrom_length (h x e : Nat) : (rowsFrom h x e).length = e * h := by
  induction e generalizing x with
  | zero => simp [rowsFrom]
  | succ e ih => rw [rowsFrom_succ, List.length_append, ih, Nat.succ_mul]; simp [colFrom]; omega

theorem ctPegs_in (w h : Nat) (hh : h ≤ 100) (x : Nat) (K0 : Nat) (R : List S30) (B : Nat) (hB : B ≤ 100000)
    (hc : ∀ k acc, K0 ≤ k → acc.length ≤ B → spec_ctPegs.l0 k (w : Int) (h : Int) acc (wrap64 ((x : Int) + 1)) = some (acc ++ R)) (d : Nat) : ∀ (k y : Nat) (acc : List S30), y + d = h → K0 + d + 1 ≤ k → acc.length + d ≤ B →
    spec_ctPegs.l1 k (w : Int) (h : Int) acc (x : Int) (y : Int) = some (acc ++ colFrom x y d ++ R) := by
  induction d with
  | zero =>
    intro k y acc hy hk hl
    obtain ⟨k, rfl⟩ : ∃ m, k = m + 1 := ⟨k - 1, by omega⟩
    simp only [spec_ctPegs.l1]
    rw [if_neg (by omega), hc k acc (by omega) (by omega)]
    simp [colFrom]
  | succ d ih =>
    intro k y acc hy hk hl
    obtain ⟨k, rfl⟩ : ∃ m, k = m + 1 := ⟨k - 1, by omega⟩
    simp only [spec_ctPegs.l1]
    rw [if_pos (by omega), if_pos (by omega), w64 (by omega) (by omega)]
    have := ih k (y + 1) (acc ++ [⟨(x : Int), (y : Int)⟩]) (by omega) (by omega) (by simp; omega)
    rw [show ((y : Int) + 1) = ((y + 1 : Nat) : Int) by omega, this, colFrom_succ]
    simp
theorem ctPegs_loop (w h : Nat) (hw : w ≤ 100) (hh : h ≤ 100) (e : Nat) : ∀ (k x : Nat) (acc : List S30), x + e = w → e * (h + 2) + 1 ≤ k → acc.length + e * h ≤ 20000 →
    spec_ctPegs.l0 k (w : Int) (h : Int) acc (x : Int) = some (acc ++ rowsFrom h x e) := by
  induction e with
  | zero =>
    intro k x acc hx hk hl
    obtain ⟨k, rfl⟩ : ∃ m, k = m + 1 := ⟨k - 1, by omega⟩
    simp only [spec_ctPegs.l0]
    rw [if_neg (by omega)]
    simp [rowsFrom]
  | succ e ih =>
    intro k x acc hx hk hl
    obtain ⟨k, rfl⟩ : ∃ m, k = m + 1 := ⟨k - 1, by omega⟩
    rw [Nat.succ_mul] at hk hl
    simp only [spec_ctPegs.l0]
    rw [if_pos (by omega)]
    have := ctPegs_in w h hh x (e * (h + 2) + 1) (rowsFrom h (x + 1) e) (acc.length + h) (by omega) (fun k' acc' hk' hl' => by
      rw [w64 (by omega) (by omega)]
      exact ih k' (x + 1) acc' (by omega) hk' (by omega)) h k 0 acc (by omega) (by omega) (by omega)
    rw [show ((0 : Nat) : Int) = 0 from rfl] at this
    rw [this, rowsFrom_succ, List.append_assoc]
theorem ctPegs_eq (k w h : Nat) (hw : w ≤ 100) (hh : h ≤ 100) (hk : 10300 ≤ k) : spec_ctPegs.f k (w : Int) (h : Int) = some (rowsFrom h 0 w) := by
  unfold spec_ctPegs.f
  have h1 : w * (h + 2) ≤ 100 * 102 := Nat.mul_le_mul hw (by omega)
  have h2 : w * h ≤ 100 * 100 := Nat.mul_le_mul hw hh
  have := ctPegs_loop w h hw hh w k 0 [] (by omega) (by omega) (by simp; omega)
  rw [show ((0 : Nat) : Int) = 0 from rfl] at this
  rw [this]
  simp

theorem board_in (w h : Nat) (hh : h ≤ 100) (x : Nat) (K0 : Nat) (R : List S30) (B : Nat) (hB : B ≤ 100000)
    (hc : ∀ k acc, K0 ≤ k → acc.length ≤ B → impl_board.l0 k (h : Int) acc (w : Int) (wrap64 ((x : Int) + 1)) = some (acc ++ R)) (d : Nat) : ∀ (k y : Nat) (acc : List S30), y + d = h → K0 + d + 1 ≤ k → acc.length + d ≤ B →
    impl_board.l1 k (h : Int) acc (x : Int) (w : Int) (x : Int) (h : Int) (y : Int) = some (acc ++ colFrom x y d ++ R) := by
  induction d with
  | zero =>
    intro k y acc hy hk hl
    obtain ⟨k, rfl⟩ : ∃ m, k = m + 1 := ⟨k - 1, by omega⟩
    simp only [impl_board.l1]
    rw [if_neg (by omega), hc k acc (by omega) (by omega)]
    simp [colFrom]
  | succ d ih =>
    intro k y acc hy hk hl
    obtain ⟨k, rfl⟩ : ∃ m, k = m + 1 := ⟨k - 1, by omega⟩
    simp only [impl_board.l1]
    rw [if_pos (by omega), if_pos (by omega), w64 (by omega) (by omega)]
    have := ih k (y + 1) (acc ++ [⟨(x : Int), (y : Int)⟩]) (by omega) (by omega) (by simp; omega)
    rw [show ((y : Int) + 1) = ((y + 1 : Nat) : Int) by omega, this, colFrom_succ]
    simp
theorem board_loop (w h : Nat) (hw : w ≤ 100) (hh : h ≤ 100) (e : Nat) : ∀ (k x : Nat) (acc : List S30), x + e = w → e * (h + 2) + 1 ≤ k → acc.length + e * h ≤ 20000 →
    impl_board.l0 k (h : Int) acc (w : Int) (x : Int) = some (acc ++ rowsFrom h x e) := by
  induction e with
  | zero =>
    intro k x acc hx hk hl
    obtain ⟨k, rfl⟩ : ∃ m, k = m + 1 := ⟨k - 1, by omega⟩
    simp only [impl_board.l0]
    rw [if_neg (by omega)]
    simp [rowsFrom]
  | succ e ih =>
    intro k x acc hx hk hl
    obtain ⟨k, rfl⟩ : ∃ m, k = m + 1 := ⟨k - 1, by omega⟩
    rw [Nat.succ_mul] at hk hl
    simp only [impl_board.l0]
    rw [if_pos (by omega)]
    have := board_in w h hh x (e * (h + 2) + 1) (rowsFrom h (x + 1) e) (acc.length + h) (by omega) (fun k' acc' hk' hl' => by
      rw [w64 (by omega) (by omega)]
      exact ih k' (x + 1) acc' (by omega) hk' (by omega)) h k 0 acc (by omega) (by omega) (by omega)
    rw [show ((0 : Nat) : Int) = 0 from rfl] at this
    rw [this, rowsFrom_succ, List.append_assoc]
theorem board_eq (k w h : Nat) (hw : w ≤ 100) (hh : h ≤ 100) (hk : 10300 ≤ k) : impl_board.f k (w : Int) (h : Int) = some (rowsFrom h 0 w) := by
  unfold impl_board.f
  have h1 : w * (h + 2) ≤ 100 * 102 := Nat.mul_le_mul hw (by omega)
  have h2 : w * h ≤ 100 * 100 := Nat.mul_le_mul hw hh
  have := board_loop w h hw hh w k 0 [] (by omega) (by omega) (by simp; omega)
  rw [show ((0 : Nat) : Int) = 0 from rfl] at this
  rw [this]
  simp

theorem rows_bound (h x e M : Nat) (hM : x + e ≤ M) (hh : h ≤ M) : ∀ p ∈ rowsFrom h x e, (0 ≤ p.f0 ∧ p.f0 < M) ∧ (0 ≤ p.f1 ∧ p.f1 < M) := by
  intro p hp
  unfold rowsFrom at hp
  rw [List.mem_flatMap] at hp
  obtain ⟨a, ha, hp⟩ := hp
  rw [List.mem_map] at hp
  obtain ⟨b, hb, rfl⟩ := hp
  rw [List.mem_range'_1] at ha hb
  refine ⟨⟨?_, ?_⟩, ⟨?_, ?_⟩⟩ <;> simp <;> omega

theorem same_ends (a b : Int × Bool) (h : a = b) : (if b.1 = a.1 then (if (b.2 != a.2) = true then some false else some true) else some false) = some true := by
  subst h
  simp

/-- A peg near by. -/
def inB (p : S30) : Prop := (-((100 : Nat) : Int) ≤ p.f0 ∧ p.f0 ≤ ((100 : Nat) : Int)) ∧ (-((100 : Nat) : Int) ≤ p.f1 ∧ p.f1 ≤ ((100 : Nat) : Int))
theorem area_small {a b c : S30} (ha : inB a) (hb : inB b) (hc : inB c) : -100000 ≤ tri a.f0 a.f1 b.f0 b.f1 c.f0 c.f1 ∧ tri a.f0 a.f1 b.f0 b.f1 c.f0 c.f1 ≤ 100000 := by
  unfold inB at ha hb hc
  unfold tri
  have q1 := mul_bd 200 200 (x := b.f0 - a.f0) (y := c.f1 - a.f1) (by omega) (by omega)
  have q2 := mul_bd 200 200 (x := b.f1 - a.f1) (y := c.f0 - a.f0) (by omega) (by omega)
  omega

abbrev visA := Int
theorem mul_self_nonneg' (x : Int) : 0 ≤ x * x := by
  rcases Int.le_total 0 x with h | h
  · exact Int.mul_nonneg h h
  · exact Int.mul_nonneg_of_nonpos_of_nonpos h h
def sqd (a b : S30) : Int := (a.f0 - b.f0) * (a.f0 - b.f0) + (a.f1 - b.f1) * (a.f1 - b.f1)
def isRight (a b c : S30) : Bool := !(tri a.f0 a.f1 b.f0 b.f1 c.f0 c.f1 == 0) && (sqd b c + sqd c a + sqd a b == 2 * mx (mx (sqd b c) (sqd c a)) (sqd a b))
def cT (a b c : S30) : Nat := if isRight a b c = true then 1 else 0
def visT (_tw : Int) (a b c : S30) (acc : Int) : Int := if isRight a b c = true then wrap64 (acc + 1) else acc
theorem cT_le (a b c : S30) : cT a b c ≤ 1 := by unfold cT; split <;> omega
theorem visT_nat (tw : Int) (a b c : S30) (acc : Nat) (h : acc ≤ 1000000000000) : visT tw a b c (acc : Int) = ((acc + cT a b c : Nat) : Int) := by
  unfold visT cT
  split
  · rw [w64 (by omega) (by omega)]; rfl
  · rfl
theorem sqd_bd {a b : S30} (ha : inB a) (hb : inB b) : impl_Peg_square.f (a.f0 - b.f0) (a.f1 - b.f1) = some (sqd a b) ∧ (0 ≤ sqd a b ∧ sqd a b ≤ 80000) := by
  unfold inB at ha hb
  have q1 := mul_bd 200 200 (x := a.f0 - b.f0) (y := a.f0 - b.f0) (by omega) (by omega)
  have q2 := mul_bd 200 200 (x := a.f1 - b.f1) (y := a.f1 - b.f1) (by omega) (by omega)
  have n1 : 0 ≤ (a.f0 - b.f0) * (a.f0 - b.f0) := mul_self_nonneg' _
  have n2 : 0 ≤ (a.f1 - b.f1) * (a.f1 - b.f1) := mul_self_nonneg' _
  unfold impl_Peg_square.f sqd
  rw [w64 (x := (a.f0 - b.f0) * (a.f0 - b.f0)) (by omega) (by omega), w64 (x := (a.f1 - b.f1) * (a.f1 - b.f1)) (by omega) (by omega), w64 (by omega) (by omega)]
  exact ⟨rfl, by omega, by omega⟩
theorem less_eq {a b : S30} (ha : inB a) (hb : inB b) : impl_Peg_less.f a.f0 a.f1 b.f0 b.f1 = some (a.f0 - b.f0, a.f1 - b.f1) := by
  unfold inB at ha hb
  unfold impl_Peg_less.f
  rw [w64 (x := a.f0 - b.f0) (by omega) (by omega), w64 (x := a.f1 - b.f1) (by omega) (by omega)]
theorem sides_eq {a b c : S30} (ha : inB a) (hb : inB b) (hc : inB c) : impl_sides.f [(⟨a.f0, a.f1⟩ : S30), (⟨b.f0, b.f1⟩ : S30), (⟨c.f0, c.f1⟩ : S30)] = some [sqd b c, sqd c a, sqd a b] := by
  have r0 : rd_T30 [(⟨a.f0, a.f1⟩ : S30), (⟨b.f0, b.f1⟩ : S30), (⟨c.f0, c.f1⟩ : S30)] 0 = a := rfl
  have r1 : rd_T30 [(⟨a.f0, a.f1⟩ : S30), (⟨b.f0, b.f1⟩ : S30), (⟨c.f0, c.f1⟩ : S30)] 1 = b := rfl
  have r2 : rd_T30 [(⟨a.f0, a.f1⟩ : S30), (⟨b.f0, b.f1⟩ : S30), (⟨c.f0, c.f1⟩ : S30)] 2 = c := rfl
  unfold impl_sides.f
  rw [r0, r1, r2, if_pos (by simp), if_pos (by simp), less_eq hb hc, Option.bind_some, (sqd_bd hb hc).1, Option.bind_some, if_pos (by simp), less_eq hc ha, Option.bind_some, (sqd_bd hc ha).1, Option.bind_some, less_eq ha hb, Option.bind_some, (sqd_bd ha hb).1, Option.bind_some]
theorem visT_eq (tw : Int) (a b c : S30) (acc : Int) (ha : inB a) (hb : inB b) (hc : inB c) : impl_CountRight_1.f a.f0 a.f1 b.f0 b.f1 c.f0 c.f1 acc = some (visT tw a b c acc) := by
  have s1 := (sqd_bd hb hc).2
  have s2 := (sqd_bd hc ha).2
  have s3 := (sqd_bd ha hb).2
  unfold impl_CountRight_1.f
  rw [sides_eq ha hb hc, Option.bind_some]
  unfold inB at ha hb hc
  rw [turn_eq 100 (by omega) ha.1 ha.2 hb.1 hb.2 hc.1 hc.2, Option.bind_some]
  rw [show rd [sqd b c, sqd c a, sqd a b] 0 = sqd b c from rfl, show rd [sqd b c, sqd c a, sqd a b] 1 = sqd c a from rfl, show rd [sqd b c, sqd c a, sqd a b] 2 = sqd a b from rfl]
  have m1 : 0 ≤ mx (mx (sqd b c) (sqd c a)) (sqd a b) ∧ mx (mx (sqd b c) (sqd c a)) (sqd a b) ≤ 80000 := by unfold mx; split <;> split <;> omega
  rw [w64 (x := sqd b c + sqd c a) (by omega) (by omega), w64 (x := sqd b c + sqd c a + sqd a b) (by omega) (by omega), w64 (x := 2 * mx (mx (sqd b c) (sqd c a)) (sqd a b)) (by omega) (by omega)]
  rw [if_pos (show (0 : Int) < (([sqd b c, sqd c a, sqd a b] : List Int).length : Int) by simp), if_pos (show (1 : Int) < (([sqd b c, sqd c a, sqd a b] : List Int).length : Int) by simp), if_pos (show (2 : Int) < (([sqd b c, sqd c a, sqd a b] : List Int).length : Int) by simp)]
  unfold visT isRight
  by_cases g : tri a.f0 a.f1 b.f0 b.f1 c.f0 c.f1 = 0
  · rw [if_pos g, if_neg (by simp [g])]
  · rw [if_neg g]
    by_cases e : sqd b c + sqd c a + sqd a b = 2 * mx (mx (sqd b c) (sqd c a)) (sqd a b)
    · rw [if_pos e, if_pos (by simp [g, e])]
    · rw [if_neg e, if_neg (by simp [g, e])]

def T2 (tw : Int) (a b : S30) : List S30 → visA → visA
  | [], acc => acc
  | c :: l, acc => T2 tw a b l (visT tw a b c acc)
def T1 (tw : Int) (L : List S30) (a : S30) : Nat → Nat → visA → visA
  | 0, _, acc => acc
  | d + 1, j, acc => T1 tw L a d (j + 1) (T2 tw a (L.getD j z30) (L.take j) acc)
def T0 (tw : Int) (L : List S30) : Nat → Nat → visA → visA
  | 0, _, acc => acc
  | d + 1, i, acc => T0 tw L d (i + 1) (T1 tw L (L.getD i z30) i 0 acc)

def isRightS (a b c : S30) : Bool := (!(a.f0 == b.f0) || (!(a.f1 == b.f1))) && ((!(a.f0 == c.f0) || (!(a.f1 == c.f1))) && ((b.f0 - a.f0) * (c.f0 - a.f0) + (b.f1 - a.f1) * (c.f1 - a.f1) == 0))
def cS (a b c : S30) : Nat := if isRightS a b c = true then 1 else 0
def visS (_tw : Int) (a b c : S30) (acc : Int) : Int := if isRightS a b c = true then wrap64 (acc + 1) else acc
theorem cS_le (a b c : S30) : cS a b c ≤ 1 := by unfold cS; split <;> omega
theorem visS_nat (tw : Int) (a b c : S30) (acc : Nat) (h : acc ≤ 1000000000000) : visS tw a b c (acc : Int) = ((acc + cS a b c : Nat) : Int) := by
  unfold visS cS
  split
  · rw [w64 (by omega) (by omega)]; rfl
  · rfl
theorem right_ite {β : Type} (x y : Bool) (p : Prop) [Decidable p] (q : Bool) (hq : q = true ↔ p) (G : Int → β) (u v : Int) :
    (if x = true then (if y = true then (if p then G u else G v) else G v) else G v) = G (if (x && (y && q)) = true then u else v) := by
  cases x
  · simp
  · cases y
    · simp
    · by_cases h : p
      · have := hq.2 h
        simp [h, this]
      · have : q = false := by
          cases q
          · rfl
          · exact absurd (hq.1 rfl) h
        simp [h, this]
def S2 (tw : Int) (a b : S30) : List S30 → visA → visA
  | [], acc => acc
  | c :: l, acc => S2 tw a b l (visS tw a b c acc)
def S1 (tw : Int) (L : List S30) (a : S30) : Nat → Nat → visA → visA
  | 0, _, acc => acc
  | d + 1, j, acc => S1 tw L a d (j + 1) (S2 tw a (L.getD j z30) (L.take j) acc)
def S0 (tw : Int) (L : List S30) : Nat → Nat → visA → visA
  | 0, _, acc => acc
  | d + 1, i, acc => S0 tw L d (i + 1) (S1 tw L (L.getD i z30) L.length 0 acc)

theorem threes_l2 (tw : Int) (L : List S30) (n i : Int) (a b : S30) (ha : inB a) (hb : inB b) (C : List S30) (hC : ∀ p ∈ C, inB p) (hlen : C.length ≤ 100000) (K0 : Nat) (R : visA) (B : List S30) (nB x21 : Int) (d : Nat) :
    ∀ (k j : Nat) (acc : visA), j + d = C.length → K0 + d + 10 ≤ k →
    (∀ k', K0 ≤ k' → impl_threes.l1 k' L L n i B nB (wrap64 (x21 + 1)) (T2 tw a b (C.drop j) acc)  a.f0 a.f1 = some R) →
    impl_threes.l2 k L L n i B nB x21 C (C.length : Int) (j : Int) acc  a.f0 a.f1 b.f0 b.f1 = some R := by
  induction d with
  | zero =>
    intro k j acc hj hk hc
    obtain ⟨k, rfl⟩ : ∃ m, k = m + 1 := ⟨k - 1, by omega⟩
    have h1 := hc k (by omega)
    rw [List.drop_of_length_le (by omega)] at h1
    simp only [impl_threes.l2]
    rw [if_neg (by omega)]
    exact h1
  | succ d ih =>
    intro k j acc hj hk hc
    obtain ⟨k, rfl⟩ : ∃ m, k = m + 1 := ⟨k - 1, by omega⟩
    have hlt : j < C.length := by omega
    have hr : rd_T30 C (j : Int) = C[j] := by
      unfold rd_T30
      simp [List.getD_eq_getElem?_getD, List.getElem?_eq_getElem hlt]
    have hp := hC C[j] (List.getElem_mem hlt)
    rw [List.drop_eq_getElem_cons hlt, T2] at hc
    simp only [impl_threes.l2]
    rw [if_pos (by omega), if_pos (by omega), if_pos (by omega), hr]
    rw [visT_eq tw a b C[j] acc ha hb hp, Option.bind_some, w64 (x := (j : Int) + 1) (by omega) (by omega)]
    exact ih k (j + 1) _ (by omega) (by omega) hc
theorem threes_l1 (tw : Int) (L : List S30) (hL : ∀ p ∈ L, inB p) (hlen : L.length ≤ 100000) (n : Int) (i m : Nat) (_hi : i ≤ L.length) (hm : m ≤ L.length) (a : S30) (ha : inB a) (K0 : Nat) (R : visA) (d : Nat) :
    ∀ (k j : Nat) (acc : visA), j + d = m → K0 + d * (L.length + 20) + 1 ≤ k →
    (∀ k', K0 ≤ k' → impl_threes.l0 k' L L n (wrap64 ((i : Int) + 1)) (T1 tw L a d j acc)  = some R) →
    impl_threes.l1 k L L n (i : Int) (L.take m) ((L.take m).length : Int) (j : Int) acc  a.f0 a.f1 = some R := by
  have hti : (L.take m).length = m := by rw [List.length_take]; omega
  induction d with
  | zero =>
    intro k j acc hj hk hc
    obtain ⟨k, rfl⟩ : ∃ m, k = m + 1 := ⟨k - 1, by omega⟩
    have h1 := hc k (by omega)
    rw [T1] at h1
    simp only [impl_threes.l1]
    rw [if_neg (by omega)]
    exact h1
  | succ d ih =>
    intro k j acc hj hk hc
    obtain ⟨k, rfl⟩ : ∃ m, k = m + 1 := ⟨k - 1, by omega⟩
    rw [Nat.succ_mul] at hk
    have hr : rd_T30 (L.take m) (j : Int) = L.getD j z30 := by
      unfold rd_T30
      rw [List.getD_eq_getElem?_getD, List.getD_eq_getElem?_getD, List.getElem?_take]
      simp [show j < m by omega]
    have hp : inB (L.getD j z30) := by
      rw [List.getD_eq_getElem?_getD, List.getElem?_eq_getElem (by omega), Option.getD_some]
      exact hL _ (List.getElem_mem _)
    have htj : (L.take j).length = j := by rw [List.length_take]; omega
    rw [T1] at hc
    simp only [impl_threes.l1]
    rw [if_pos (by omega), if_pos (by omega), if_pos (by omega), if_pos (by omega), Option.bind_some, hr, show ((j : Int)).toNat = j from rfl]
    refine threes_l2 tw L _ _ a (L.getD j z30) ha hp (L.take j) (fun p h => hL p (List.mem_of_mem_take h)) (by omega) (K0 + d * (L.length + 20) + 1) R _ _ _ (L.take j).length k 0 acc (by omega) (by omega) fun k' hk' => ?_
    rw [w64 (x := (j : Int) + 1) (by omega) (by omega), List.drop_zero]
    exact ih k' (j + 1) _ (by omega) (by omega) hc
theorem threes_l0 (tw : Int) (L : List S30) (hL : ∀ p ∈ L, inB p) (hlen : L.length ≤ 2000) (d : Nat) : ∀ (k i : Nat) (acc : visA), i + d = L.length → d * 5000000 + 5 ≤ k →
    impl_threes.l0 k L L (L.length : Int) (i : Int) acc  = some (T0 tw L d i acc) := by
  induction d with
  | zero =>
    intro k i acc hi hk
    obtain ⟨k, rfl⟩ : ∃ m, k = m + 1 := ⟨k - 1, by omega⟩
    simp only [impl_threes.l0]
    rw [if_neg (by omega), T0]
  | succ d ih =>
    intro k i acc hi hk
    obtain ⟨k, rfl⟩ : ∃ m, k = m + 1 := ⟨k - 1, by omega⟩
    have hr : rd_T30 L (i : Int) = L.getD i z30 := by
      unfold rd_T30
      rw [show ((i : Int)).toNat = i from rfl]
    have hp : inB (L.getD i z30) := by
      rw [List.getD_eq_getElem?_getD, List.getElem?_eq_getElem (by omega), Option.getD_some]
      exact hL _ (List.getElem_mem _)
    have hm : i * (L.length + 20) ≤ 2000 * 2020 := Nat.mul_le_mul (by omega) (by omega)
    rw [T0]
    simp only [impl_threes.l0]
    rw [if_pos (by omega), if_pos (by omega), if_pos (by omega), if_pos (by omega), Option.bind_some, hr, show ((i : Int)).toNat = i from rfl]
    have hgo := threes_l1 tw L hL (by omega) (L.length : Int) i i (by omega) (by omega) (L.getD i z30) hp (d * 5000000 + 5) (T0 tw L d (i + 1) (T1 tw L (L.getD i z30) i 0 acc)) i k 0 acc (by omega) (by omega) fun k' hk' => by
      rw [w64 (x := (i : Int) + 1) (by omega) (by omega)]
      exact ih k' (i + 1) _ (by omega) hk'

    exact hgo

theorem rightS_l2 (tw : Int) (L : List S30) (n i : Int) (a b : S30) (ha : inB a) (hb : inB b) (C : List S30) (hC : ∀ p ∈ C, inB p) (hlen : C.length ≤ 100000) (K0 : Nat) (R : Int × Bool) (B : List S30) (nB x21 : Int) (d : Nat) :
    ∀ (k j : Nat) (acc : visA), j + d = C.length → K0 + d + 10 ≤ k →
    (∀ k', K0 ≤ k' → spec_CountRight.l1 k' (S2 tw a b (C.drop j) acc) L L n i B nB (wrap64 (x21 + 1)) a.f0 a.f1 = some R) →
    spec_CountRight.l2 k acc L L n i B nB x21 C (C.length : Int) (j : Int) a.f0 a.f1 b.f0 b.f1 = some R := by
  induction d with
  | zero =>
    intro k j acc hj hk hc
    obtain ⟨k, rfl⟩ : ∃ m, k = m + 1 := ⟨k - 1, by omega⟩
    have h1 := hc k (by omega)
    rw [List.drop_of_length_le (by omega)] at h1
    simp only [spec_CountRight.l2]
    rw [if_neg (by omega)]
    exact h1
  | succ d ih =>
    intro k j acc hj hk hc
    obtain ⟨k, rfl⟩ : ∃ m, k = m + 1 := ⟨k - 1, by omega⟩
    have hlt : j < C.length := by omega
    have hr : rd_T30 C (j : Int) = C[j] := by
      unfold rd_T30
      simp [List.getD_eq_getElem?_getD, List.getElem?_eq_getElem hlt]
    have hp := hC C[j] (List.getElem_mem hlt)
    rw [List.drop_eq_getElem_cons hlt, S2] at hc
    simp only [spec_CountRight.l2]
    rw [if_pos (by omega), if_pos (by omega), if_pos (by omega), hr]
    have hv : visS tw a b C[j] acc = if ((!(a.f0 == b.f0) || (!(a.f1 == b.f1))) && ((!(a.f0 == C[j].f0) || (!(a.f1 == C[j].f1))) && ((b.f0 - a.f0) * (C[j].f0 - a.f0) + (b.f1 - a.f1) * (C[j].f1 - a.f1) == 0))) = true then wrap64 (acc + 1) else acc := rfl
    rw [hv] at hc
    unfold inB at ha hb hp
    have q1 := mul_bd 200 200 (x := b.f0 - a.f0) (y := C[j].f0 - a.f0) (by omega) (by omega)
    have q2 := mul_bd 200 200 (x := b.f1 - a.f1) (y := C[j].f1 - a.f1) (by omega) (by omega)
    rw [w64 (x := (j : Int) + 1) (by omega) (by omega), w64 (x := b.f0 - a.f0) (by omega) (by omega), w64 (x := C[j].f0 - a.f0) (by omega) (by omega), w64 (x := b.f1 - a.f1) (by omega) (by omega), w64 (x := C[j].f1 - a.f1) (by omega) (by omega), w64 (x := (b.f0 - a.f0) * (C[j].f0 - a.f0)) (by omega) (by omega), w64 (x := (b.f1 - a.f1) * (C[j].f1 - a.f1)) (by omega) (by omega), w64 (x := (b.f0 - a.f0) * (C[j].f0 - a.f0) + (b.f1 - a.f1) * (C[j].f1 - a.f1)) (by omega) (by omega)]
    exact (right_ite _ _ _ _ beq_iff_eq (fun t => spec_CountRight.l2 k t L L n i B nB x21 C (C.length : Int) ((j : Int) + 1) a.f0 a.f1 b.f0 b.f1) (wrap64 (acc + 1)) acc).trans (ih k (j + 1) _ (by omega) (by omega) hc)
theorem rightS_l1 (tw : Int) (L : List S30) (hL : ∀ p ∈ L, inB p) (hlen : L.length ≤ 100000) (n : Int) (i m : Nat) (_hi : i ≤ L.length) (hm : m ≤ L.length) (a : S30) (ha : inB a) (K0 : Nat) (R : Int × Bool) (d : Nat) :
    ∀ (k j : Nat) (acc : visA), j + d = m → K0 + d * (L.length + 20) + 1 ≤ k →
    (∀ k', K0 ≤ k' → spec_CountRight.l0 k' (S1 tw L a d j acc) L L n (wrap64 ((i : Int) + 1)) = some R) →
    spec_CountRight.l1 k acc L L n (i : Int) (L.take m) ((L.take m).length : Int) (j : Int) a.f0 a.f1 = some R := by
  have hti : (L.take m).length = m := by rw [List.length_take]; omega
  induction d with
  | zero =>
    intro k j acc hj hk hc
    obtain ⟨k, rfl⟩ : ∃ m, k = m + 1 := ⟨k - 1, by omega⟩
    have h1 := hc k (by omega)
    rw [S1] at h1
    simp only [spec_CountRight.l1]
    rw [if_neg (by omega)]
    exact h1
  | succ d ih =>
    intro k j acc hj hk hc
    obtain ⟨k, rfl⟩ : ∃ m, k = m + 1 := ⟨k - 1, by omega⟩
    rw [Nat.succ_mul] at hk
    have hr : rd_T30 (L.take m) (j : Int) = L.getD j z30 := by
      unfold rd_T30
      rw [List.getD_eq_getElem?_getD, List.getD_eq_getElem?_getD, List.getElem?_take]
      simp [show j < m by omega]
    have hp : inB (L.getD j z30) := by
      rw [List.getD_eq_getElem?_getD, List.getElem?_eq_getElem (by omega), Option.getD_some]
      exact hL _ (List.getElem_mem _)
    have htj : (L.take j).length = j := by rw [List.length_take]; omega
    rw [S1] at hc
    simp only [spec_CountRight.l1]
    rw [if_pos (by omega), if_pos (by omega), if_pos (by omega), if_pos (by omega), Option.bind_some, hr, show ((j : Int)).toNat = j from rfl]
    refine rightS_l2 tw L _ _ a (L.getD j z30) ha hp (L.take j) (fun p h => hL p (List.mem_of_mem_take h)) (by omega) (K0 + d * (L.length + 20) + 1) R _ _ _ (L.take j).length k 0 acc (by omega) (by omega) fun k' hk' => ?_
    rw [w64 (x := (j : Int) + 1) (by omega) (by omega), List.drop_zero]
    exact ih k' (j + 1) _ (by omega) (by omega) hc
theorem rightS_l0 (tw : Int) (L : List S30) (hL : ∀ p ∈ L, inB p) (hlen : L.length ≤ 2000) (d : Nat) : ∀ (k i : Nat) (acc : visA), i + d = L.length → d * 5000000 + 5 ≤ k →
    spec_CountRight.l0 k acc L L (L.length : Int) (i : Int) = some ((S0 tw L d i acc), true) := by
  induction d with
  | zero =>
    intro k i acc hi hk
    obtain ⟨k, rfl⟩ : ∃ m, k = m + 1 := ⟨k - 1, by omega⟩
    simp only [spec_CountRight.l0]
    rw [if_neg (by omega), S0]
  | succ d ih =>
    intro k i acc hi hk
    obtain ⟨k, rfl⟩ : ∃ m, k = m + 1 := ⟨k - 1, by omega⟩
    have hr : rd_T30 L (i : Int) = L.getD i z30 := by
      unfold rd_T30
      rw [show ((i : Int)).toNat = i from rfl]
    have hp : inB (L.getD i z30) := by
      rw [List.getD_eq_getElem?_getD, List.getElem?_eq_getElem (by omega), Option.getD_some]
      exact hL _ (List.getElem_mem _)
    have hm : L.length * (L.length + 20) ≤ 2000 * 2020 := Nat.mul_le_mul (by omega) (by omega)
    rw [S0]
    simp only [spec_CountRight.l0]
    rw [if_pos (by omega), if_pos (by omega), if_pos (by omega), hr]
    have hgo := rightS_l1 tw L hL (by omega) (L.length : Int) i L.length (by omega) (by omega) (L.getD i z30) hp (d * 5000000 + 5) ((S0 tw L d (i + 1) (S1 tw L (L.getD i z30) L.length 0 acc)), true) L.length k 0 acc (by omega) (by omega) fun k' hk' => by
      rw [w64 (x := (i : Int) + 1) (by omega) (by omega)]
      exact ih k' (i + 1) _ (by omega) hk'
    rw [List.take_length] at hgo
    exact hgo

theorem ctBoardM (w h m : Int) (_hm : 0 ≤ m ∧ m ≤ 100) : spec_ctBoard.f w h m = some (decide ((1 ≤ w ∧ w ≤ m) ∧ (1 ≤ h ∧ h ≤ m))) := by
  unfold spec_ctBoard.f
  simp only [in_eq, Option.bind_some]
  by_cases c : 1 ≤ w ∧ w ≤ m
  · simp [c]
  · simp [c]
theorem isBoardM (w h m : Int) (_hm : 0 ≤ m ∧ m ≤ 100) : impl_isBoard.f w h m = some (decide ((1 ≤ w ∧ w ≤ m) ∧ (1 ≤ h ∧ h ≤ m))) := by
  unfold impl_isBoard.f
  simp only [within_eq, Option.bind_some]
  by_cases c : 1 ≤ w ∧ w ≤ m
  · simp [c]
  · simp [c]

def CT2 (a b : S30) : List S30 → Nat
  | [] => 0
  | c :: l => Nat.add (cT a b c) (CT2 a b l)
def CT1 (L : List S30) (a : S30) : Nat → Nat → Nat
  | 0, _ => 0
  | d + 1, j => Nat.add (CT2 a (L.getD j z30) (L.take j)) (CT1 L a d (j + 1))
def CT0 (L : List S30) : Nat → Nat → Nat
  | 0, _ => 0
  | d + 1, i => Nat.add (CT1 L (L.getD i z30) i 0) (CT0 L d (i + 1))
theorem CT2_le (a b : S30) (l : List S30) : CT2 a b l ≤ l.length := by
  induction l with
  | nil => exact Nat.le_refl _
  | cons c l ih =>
    have := cT_le a b c
    show cT a b c + CT2 a b l ≤ l.length + 1
    omega
theorem CT1_le (L : List S30) (a : S30) (d : Nat) : ∀ j, CT1 L a d j ≤ d * L.length := by
  induction d with
  | zero => intro j; exact Nat.zero_le _
  | succ d ih =>
    intro j
    have h1 := CT2_le a (L.getD j z30) (L.take j)
    have h2 := ih (j + 1)
    rw [List.length_take] at h1
    rw [Nat.succ_mul]
    show CT2 a (L.getD j z30) (L.take j) + CT1 L a d (j + 1) ≤ _
    omega
theorem T2_nat (tw : Int) (a b : S30) (l : List S30) : ∀ acc : Nat, acc + l.length ≤ 1000000000000 → T2 tw a b l (acc : Int) = ((acc + CT2 a b l : Nat) : Int) := by
  induction l with
  | nil => intro acc _; rfl
  | cons c l ih =>
    intro acc h
    have h1 := cT_le a b c
    rw [List.length_cons] at h
    rw [T2, visT_nat tw a b c acc (by omega), ih _ (by omega)]
    show (((acc + cT a b c) + CT2 a b l : Nat) : Int) = ((acc + (cT a b c + CT2 a b l) : Nat) : Int)
    rw [Nat.add_assoc]
theorem T1_nat (tw : Int) (L : List S30) (a : S30) (d : Nat) : ∀ (j acc : Nat), acc + d * L.length ≤ 1000000000000 → T1 tw L a d j (acc : Int) = ((acc + CT1 L a d j : Nat) : Int) := by
  induction d with
  | zero => intro j acc _; rfl
  | succ d ih =>
    intro j acc h
    rw [Nat.succ_mul] at h
    have h1 := CT2_le a (L.getD j z30) (L.take j)
    rw [List.length_take] at h1
    rw [T1, T2_nat tw a (L.getD j z30) (L.take j) acc (by rw [List.length_take]; omega), ih (j + 1) _ (by omega)]
    show (((acc + CT2 a (L.getD j z30) (L.take j)) + CT1 L a d (j + 1) : Nat) : Int) = ((acc + (CT2 a (L.getD j z30) (L.take j) + CT1 L a d (j + 1)) : Nat) : Int)
    rw [Nat.add_assoc]
theorem T0_nat (tw : Int) (L : List S30) (M : Nat) (hM : L.length * L.length ≤ M) (d : Nat) : ∀ (i acc : Nat), i + d = L.length → acc + d * M ≤ 1000000000000 → T0 tw L d i (acc : Int) = ((acc + CT0 L d i : Nat) : Int) := by
  induction d with
  | zero => intro i acc _ _; rfl
  | succ d ih =>
    intro i acc hi h
    rw [Nat.succ_mul] at h
    have h1 := CT1_le L (L.getD i z30) i 0
    have h2 : i * L.length ≤ L.length * L.length := Nat.mul_le_mul_right _ (by omega)
    have h3 : acc + i * L.length ≤ 1000000000000 := by omega
    have h4 : acc + CT1 L (L.getD i z30) i 0 + d * M ≤ 1000000000000 := by omega
    rw [T0, T1_nat tw L (L.getD i z30) i 0 acc h3, ih (i + 1) _ (by omega) h4]
    show (((acc + CT1 L (L.getD i z30) i 0) + CT0 L d (i + 1) : Nat) : Int) = ((acc + (CT1 L (L.getD i z30) i 0 + CT0 L d (i + 1)) : Nat) : Int)
    rw [Nat.add_assoc]
def CS2 (a b : S30) : List S30 → Nat
  | [] => 0
  | c :: l => Nat.add (cS a b c) (CS2 a b l)
def CS1 (L : List S30) (a : S30) : Nat → Nat → Nat
  | 0, _ => 0
  | d + 1, j => Nat.add (CS2 a (L.getD j z30) (L.take j)) (CS1 L a d (j + 1))
def CS0 (L : List S30) : Nat → Nat → Nat
  | 0, _ => 0
  | d + 1, i => Nat.add (CS1 L (L.getD i z30) L.length 0) (CS0 L d (i + 1))
theorem CS2_le (a b : S30) (l : List S30) : CS2 a b l ≤ l.length := by
  induction l with
  | nil => exact Nat.le_refl _
  | cons c l ih =>
    have := cS_le a b c
    show cS a b c + CS2 a b l ≤ l.length + 1
    omega
theorem CS1_le (L : List S30) (a : S30) (d : Nat) : ∀ j, CS1 L a d j ≤ d * L.length := by
  induction d with
  | zero => intro j; exact Nat.zero_le _
  | succ d ih =>
    intro j
    have h1 := CS2_le a (L.getD j z30) (L.take j)
    have h2 := ih (j + 1)
    rw [List.length_take] at h1
    rw [Nat.succ_mul]
    show CS2 a (L.getD j z30) (L.take j) + CS1 L a d (j + 1) ≤ _
    omega
theorem S2_nat (tw : Int) (a b : S30) (l : List S30) : ∀ acc : Nat, acc + l.length ≤ 1000000000000 → S2 tw a b l (acc : Int) = ((acc + CS2 a b l : Nat) : Int) := by
  induction l with
  | nil => intro acc _; rfl
  | cons c l ih =>
    intro acc h
    have h1 := cS_le a b c
    rw [List.length_cons] at h
    rw [S2, visS_nat tw a b c acc (by omega), ih _ (by omega)]
    show (((acc + cS a b c) + CS2 a b l : Nat) : Int) = ((acc + (cS a b c + CS2 a b l) : Nat) : Int)
    rw [Nat.add_assoc]
theorem S1_nat (tw : Int) (L : List S30) (a : S30) (d : Nat) : ∀ (j acc : Nat), acc + d * L.length ≤ 1000000000000 → S1 tw L a d j (acc : Int) = ((acc + CS1 L a d j : Nat) : Int) := by
  induction d with
  | zero => intro j acc _; rfl
  | succ d ih =>
    intro j acc h
    rw [Nat.succ_mul] at h
    have h1 := CS2_le a (L.getD j z30) (L.take j)
    rw [List.length_take] at h1
    rw [S1, S2_nat tw a (L.getD j z30) (L.take j) acc (by rw [List.length_take]; omega), ih (j + 1) _ (by omega)]
    show (((acc + CS2 a (L.getD j z30) (L.take j)) + CS1 L a d (j + 1) : Nat) : Int) = ((acc + (CS2 a (L.getD j z30) (L.take j) + CS1 L a d (j + 1)) : Nat) : Int)
    rw [Nat.add_assoc]
theorem S0_nat (tw : Int) (L : List S30) (M : Nat) (hM : L.length * L.length ≤ M) (d : Nat) : ∀ (i acc : Nat), i + d = L.length → acc + d * M ≤ 1000000000000 → S0 tw L d i (acc : Int) = ((acc + CS0 L d i : Nat) : Int) := by
  induction d with
  | zero => intro i acc _ _; rfl
  | succ d ih =>
    intro i acc hi h
    rw [Nat.succ_mul] at h
    have h1 := CS1_le L (L.getD i z30) L.length 0
    have h2 : L.length * L.length ≤ L.length * L.length := Nat.mul_le_mul_right _ (by omega)
    have h3 : acc + L.length * L.length ≤ 1000000000000 := by omega
    have h4 : acc + CS1 L (L.getD i z30) L.length 0 + d * M ≤ 1000000000000 := by omega
    rw [S0, S1_nat tw L (L.getD i z30) L.length 0 acc h3, ih (i + 1) _ (by omega) h4]
    show (((acc + CS1 L (L.getD i z30) L.length 0) + CS0 L d (i + 1) : Nat) : Int) = ((acc + (CS1 L (L.getD i z30) L.length 0 + CS0 L d (i + 1)) : Nat) : Int)
    rw [Nat.add_assoc]

/-- The one pure statement of the law FnExactCountRight. -/
def FnExactCountRight.Pure : Prop :=
  ∀ (a0 : Int) (a1 : Int), I64 a0 → I64 a1 → ∃ k, laws_FnExactCountRight.f k a0 a1 = some true

theorem inside_right : ∀ a b : Fin 6, CS0 (rowsFrom (b.val + 1) 0 (a.val + 1)) ((a.val + 1) * (b.val + 1)) 0 = CT0 (rowsFrom (b.val + 1) 0 (a.val + 1)) ((a.val + 1) * (b.val + 1)) 0 := by decide +kernel
theorem FnExactCountRight : FnExactCountRight.Pure := by
  intro w h _ _
  obtain ⟨k, hk⟩ : ∃ k : Nat, 11000000000 ≤ k := ⟨11000000000, Nat.le_refl _⟩
  refine ⟨k, ?_⟩
  have key : ∃ r, spec_CountRight.f k w h = some r ∧ impl_CountRight.f k w h = some r := by
    unfold spec_CountRight.f impl_CountRight.f
    rw [ctBoardM w h 6 (by omega), isBoardM w h 6 (by omega), Option.bind_some, Option.bind_some]
    by_cases c : (1 ≤ w ∧ w ≤ 6) ∧ (1 ≤ h ∧ h ≤ 6)
    · rw [decide_eq_true c, if_pos rfl, if_pos rfl]
      obtain ⟨W, rfl⟩ : ∃ W : Nat, w = W := ⟨w.toNat, by omega⟩
      obtain ⟨H, rfl⟩ : ∃ H : Nat, h = H := ⟨h.toNat, by omega⟩
      have hb : ∀ p ∈ rowsFrom H 0 W, inB p := by
        intro p hp
        have := rows_bound H 0 W 100 (by omega) (by omega) p hp
        unfold inB
        omega
      have hlen := rowsFrom_length H 0 W
      have hm : W * H ≤ 6 * 6 := Nat.mul_le_mul (by omega) (by omega)
      have hm2 : (rowsFrom H 0 W).length * (rowsFrom H 0 W).length ≤ 36 * 36 := Nat.mul_le_mul (by omega) (by omega)
      rw [ctPegs_eq k W H (by omega) (by omega) (by omega), Option.bind_some, board_eq k W H (by omega) (by omega) (by omega), Option.bind_some]
      have h1 := rightS_l0 0 (rowsFrom H 0 W) hb (by omega) (rowsFrom H 0 W).length k 0 0 (by omega) (by omega)
      have h2 := threes_l0 0 (rowsFrom H 0 W) hb (by omega) (rowsFrom H 0 W).length k 0 0 (by omega) (by omega)
      have e1 := S0_nat 0 (rowsFrom H 0 W) 1296 hm2 (rowsFrom H 0 W).length 0 0 (by omega) (by omega)
      have e2 := T0_nat 0 (rowsFrom H 0 W) 1296 hm2 (rowsFrom H 0 W).length 0 0 (by omega) (by omega)
      have e3 : CS0 (rowsFrom H 0 W) (rowsFrom H 0 W).length 0 = CT0 (rowsFrom H 0 W) (rowsFrom H 0 W).length 0 := by
        have := inside_right ⟨W - 1, by omega⟩ ⟨H - 1, by omega⟩
        dsimp only at this
        rw [show W - 1 + 1 = W by omega, show H - 1 + 1 = H by omega, ← hlen] at this
        exact this
      rw [show ((0 : Nat) : Int) = 0 from rfl] at h1 h2 e1 e2
      rw [e1] at h1
      rw [e2, ← e3] at h2
      refine ⟨_, h1, ?_⟩
      unfold impl_threes.f
      rw [h2, Option.bind_some]
    · rw [decide_eq_false c, if_neg (by decide), if_neg (by decide)]
      exact ⟨(0, false), rfl, rfl⟩
  obtain ⟨r, h1, h2⟩ := key
  unfold laws_FnExactCountRight.f
  rw [h1, Option.bind_some, h2, Option.bind_some]
  exact same_ends r r rfl

end Go.Proofs.Ytookmifpgclhlaa.Pure
