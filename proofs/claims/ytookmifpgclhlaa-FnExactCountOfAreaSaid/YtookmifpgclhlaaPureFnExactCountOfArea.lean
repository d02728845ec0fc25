/- The program's CountOfArea returns what the reference's returns, for all arguments. No condition. -/
import Derived.Test.YtookmifpgclhlaaMPx0
import Derived.Test.YtookmifpgclhlaaMPx1
import Derived.Test.YtookmifpgclhlaaMPx2
import Derived.Test.YtookmifpgclhlaaMPx3
import Derived.Test.YtookmifpgclhlaaMPx4
import Derived.Test.YtookmifpgclhlaaMPx5
import Derived.Test.YtookmifpgclhlaaMPx6
import Derived.Test.YtookmifpgclhlaaV
namespace Go.Proofs.Ytookmifpgclhlaa.Pure
open Go.RowKit Go.Proofs.YtookmifpgclhlaaV Go.Proofs.Ytookmifpgclhlaa.MP Go.Proofs.YtookmifpgclhlaaW.PrintWords Go.Proofs.YtookmifpgclhlaaW.PrintLast Go.Proofs.YtookmifpgclhlaaW.PrintMore

theorem in_eq (a lo hi : Int) : spec_l1In.f a lo hi = some (decide (lo ≤ a ∧ a ≤ hi)) := by
  unfold spec_l1In.f
  by_cases h : lo ≤ a
  · rw [if_pos h]; simp [h]
  · rw [if_neg h]; simp [h]

theorem within_eq (a lo hi : Int) : impl_within.f a lo hi = some (decide (lo ≤ a ∧ a ≤ hi)) := by
  unfold impl_within.f
  by_cases h : lo ≤ a
  · rw [if_pos h]; simp [h]
  · rw [if_neg h]; simp [h]

theorem w64 {x : Int} (h0 : -9223372036854775808 ≤ x) (h1 : x ≤ 9223372036854775807) : wrap64 x = x := by
  unfold wrap64
  omega

theorem mul_bd {x y : Int} (A B : Nat) (hx : -(A : Int) ≤ x ∧ x ≤ A) (hy : -(B : Int) ≤ y ∧ y ≤ B) : -((A * B : Nat) : Int) ≤ x * y ∧ x * y ≤ ((A * B : Nat) : Int) := by
  have h1 : x.natAbs ≤ A := by omega
  have h2 : y.natAbs ≤ B := by omega
  have h3 := Nat.mul_le_mul h1 h2
  rw [← Int.natAbs_mul] at h3
  omega

/-- Twice the area of three points. -/
def tri (ax ay bx by_ cx cy : Int) : Int := (bx - ax) * (cy - ay) - (by_ - ay) * (cx - ax)

theorem pgTurn_eq (M : Nat) (hM : M ≤ 1000000) {ax ay bx by_ cx cy : Int} (h1 : -(M : Int) ≤ ax ∧ ax ≤ M) (h2 : -(M : Int) ≤ ay ∧ ay ≤ M) (h3 : -(M : Int) ≤ bx ∧ bx ≤ M) (h4 : -(M : Int) ≤ by_ ∧ by_ ≤ M) (h5 : -(M : Int) ≤ cx ∧ cx ≤ M) (h6 : -(M : Int) ≤ cy ∧ cy ≤ M) :
    spec_pgTurn.f ax ay bx by_ cx cy = some (tri ax ay bx by_ cx cy) := by
  unfold spec_pgTurn.f tri
  rw [w64 (x := bx - ax) (by omega) (by omega), w64 (x := cy - ay) (by omega) (by omega), w64 (x := by_ - ay) (by omega) (by omega), w64 (x := cx - ax) (by omega) (by omega)]
  have q1 := mul_bd 2000000 2000000 (x := bx - ax) (y := cy - ay) (by omega) (by omega)
  have q2 := mul_bd 2000000 2000000 (x := by_ - ay) (y := cx - ax) (by omega) (by omega)
  rw [w64 (x := (bx - ax) * (cy - ay)) (by omega) (by omega), w64 (x := (by_ - ay) * (cx - ax)) (by omega) (by omega), w64 (by omega) (by omega)]

theorem turn_eq (M : Nat) (hM : M ≤ 1000000) {ax ay bx by_ cx cy : Int} (h1 : -(M : Int) ≤ ax ∧ ax ≤ M) (h2 : -(M : Int) ≤ ay ∧ ay ≤ M) (h3 : -(M : Int) ≤ bx ∧ bx ≤ M) (h4 : -(M : Int) ≤ by_ ∧ by_ ≤ M) (h5 : -(M : Int) ≤ cx ∧ cx ≤ M) (h6 : -(M : Int) ≤ cy ∧ cy ≤ M) :
    impl_turn.f ax ay bx by_ cx cy = some (tri ax ay bx by_ cx cy) := by
  unfold impl_turn.f impl_Peg_less.f impl_cross.f tri
  simp only [Option.bind_some]
  rw [w64 (x := bx - ax) (by omega) (by omega), w64 (x := cy - ay) (by omega) (by omega), w64 (x := by_ - ay) (by omega) (by omega), w64 (x := cx - ax) (by omega) (by omega)]
  have q1 := mul_bd 2000000 2000000 (x := bx - ax) (y := cy - ay) (by omega) (by omega)
  have q2 := mul_bd 2000000 2000000 (x := by_ - ay) (y := cx - ax) (by omega) (by omega)
  rw [w64 (x := (bx - ax) * (cy - ay)) (by omega) (by omega), w64 (x := (by_ - ay) * (cx - ax)) (by omega) (by omega), w64 (by omega) (by omega)]

theorem size_eq {x : Int} (h : -9223372036854775807 ≤ x ∧ x ≤ 9223372036854775807) : impl_size.f x = some (x.natAbs : Int) := by
  unfold impl_size.f mx
  rw [w64 (x := -x) (by omega) (by omega)]
  split
  · congr 1; omega
  · congr 1; omega

theorem l1Abs_eq {x : Int} (h : -9223372036854775807 ≤ x ∧ x ≤ 9223372036854775807) : spec_l1Abs.f x = some (x.natAbs : Int) := by
  unfold spec_l1Abs.f spec_l1Most.f
  rw [w64 (x := -x) (by omega) (by omega)]
  split
  · show some x = _
    congr 1; omega
  · show some (-x) = _
    congr 1; omega

/-- The pegs of a board from column x on, e columns. -/
def rowsFrom (h x e : Nat) : List S30 := (List.range' x e).flatMap fun (x : Nat) => (List.range' 0 h).map fun (y : Nat) => (⟨(x : Int), (y : Int)⟩ : S30)
def colFrom (x y d : Nat) : List S30 := (List.range' y d).map fun (y : Nat) => (⟨(x : Int), (y : Int)⟩ : S30)
theorem colFrom_succ (x y d : Nat) : colFrom x y (d + 1) = (⟨(x : Int), (y : Int)⟩ : S30) :: colFrom x (y + 1) d := by
  simp [colFrom, List.range'_succ]
theorem rowsFrom_succ (h x e : Nat) : rowsFrom h x (e + 1) = colFrom x 0 h ++ rowsFrom h (x + 1) e := by
  simp [rowsFrom, colFrom, List.range'_succ]
theorem rowsFrom_length (h x e : Nat) : (rowsFrom h x e).length = e * h := by
  induction e generalizing x with
  | zero => simp [rowsFrom]
  | succ e ih => rw [rowsFrom_succ, List.length_append, ih, Nat.succ_mul]; simp [colFrom]; omega

theorem ctPegs_in (w h : Nat) (hh : h ≤ 100) (x : Nat) (K0 : Nat) (R : List S30) (B : Nat) (hB : B ≤ 100000)
    (hc : ∀ k acc, K0 ≤ k → acc.length ≤ B → spec_ctPegs.l0 k (w : Int) (h : Int) acc (wrap64 ((x : Int) + 1)) = some (acc ++ R)) (d : Nat) : ∀ (k y : Nat) (acc : List S30), y + d = h → K0 + d + 1 ≤ k → acc.length + d ≤ B →
    spec_ctPegs.l1 k (w : Int) (h : Int) acc (x : Int) (y : Int) = some (acc ++ colFrom x y d ++ R) := by
  induction d with
  | zero =>
    intro k y acc hy hk hl
    obtain ⟨k, rfl⟩ : ∃ m, k = m + 1 := ⟨k - 1, by omega⟩
    simp only [spec_ctPegs.l1]
    rw [if_neg (by omega), hc k acc (by omega) (by omega)]
    simp [colFrom]
  | succ d ih =>
    intro k y acc hy hk hl
    obtain ⟨k, rfl⟩ : ∃ m, k = m + 1 := ⟨k - 1, by omega⟩
    simp only [spec_ctPegs.l1]
    rw [if_pos (by omega), if_pos (by omega), w64 (by omega) (by omega)]
    have := ih k (y + 1) (acc ++ [⟨(x : Int), (y : Int)⟩]) (by omega) (by omega) (by simp; omega)
    rw [show ((y : Int) + 1) = ((y + 1 : Nat) : Int) by omega, this, colFrom_succ]
    simp
theorem ctPegs_loop (w h : Nat) (hw : w ≤ 100) (hh : h ≤ 100) (e : Nat) : ∀ (k x : Nat) (acc : List S30), x + e = w → e * (h + 2) + 1 ≤ k → acc.length + e * h ≤ 20000 →
    spec_ctPegs.l0 k (w : Int) (h : Int) acc (x : Int) = some (acc ++ rowsFrom h x e) := by
  induction e with
  | zero =>
    intro k x acc hx hk hl
    obtain ⟨k, rfl⟩ : ∃ m, k = m + 1 := ⟨k - 1, by omega⟩
    simp only [spec_ctPegs.l0]
    rw [if_neg (by omega)]
    simp [rowsFrom]
  | succ e ih =>
    intro k x acc hx hk hl
    obtain ⟨k, rfl⟩ : ∃ m, k = m + 1 := ⟨k - 1, by omega⟩
    rw [Nat.succ_mul] at hk hl
    simp only [spec_ctPegs.l0]
    rw [if_pos (by omega)]
    have := ctPegs_in w h hh x (e * (h + 2) + 1) (rowsFrom h (x + 1) e) (acc.length + h) (by omega) (fun k' acc' hk' hl' => by
      rw [w64 (by omega) (by omega)]
      exact ih k' (x + 1) acc' (by omega) hk' (by omega)) h k 0 acc (by omega) (by omega) (by omega)
    rw [show ((0 : Nat) : Int) = 0 from rfl] at this
    rw [this, rowsFrom_succ, List.append_assoc]
theorem ctPegs_eq (k w h : Nat) (hw : w ≤ 100) (hh : h ≤ 100) (hk : 10300 ≤ k) : spec_ctPegs.f k (w : Int) (h : Int) = some (rowsFrom h 0 w) := by
  unfold spec_ctPegs.f
  have h1 : w * (h + 2) ≤ 100 * 102 := Nat.mul_le_mul hw (by omega)
  have h2 : w * h ≤ 100 * 100 := Nat.mul_le_mul hw hh
  have := ctPegs_loop w h hw hh w k 0 [] (by omega) (by omega) (by simp; omega)
  rw [show ((0 : Nat) : Int) = 0 from rfl] at this
  rw [this]
  simp

theorem board_in (w h : Nat) (hh : h ≤ 100) (x : Nat) (K0 : Nat) (R : List S30) (B : Nat) (hB : B ≤ 100000)
    (hc : ∀ k acc, K0 ≤ k → acc.length ≤ B → impl_board.l0 k (h : Int) acc (w : Int) (wrap64 ((x : Int) + 1)) = some (acc ++ R)) (d : Nat) : ∀ (k y : Nat) (acc : List S30), y + d = h → K0 + d + 1 ≤ k → acc.length + d ≤ B →
    impl_board.l1 k (h : Int) acc (x : Int) (w : Int) (x : Int) (h : Int) (y : Int) = some (acc ++ colFrom x y d ++ R) := by
  induction d with
  | zero =>
    intro k y acc hy hk hl
    obtain ⟨k, rfl⟩ : ∃ m, k = m + 1 := ⟨k - 1, by omega⟩
    simp only [impl_board.l1]
    rw [if_neg (by omega), hc k acc (by omega) (by omega)]
    simp [colFrom]
  | succ d ih =>
    intro k y acc hy hk hl
    obtain ⟨k, rfl⟩ : ∃ m, k = m + 1 := ⟨k - 1, by omega⟩
    simp only [impl_board.l1]
    rw [if_pos (by omega), if_pos (by omega), w64 (by omega) (by omega)]
    have := ih k (y + 1) (acc ++ [⟨(x : Int), (y : Int)⟩]) (by omega) (by omega) (by simp; omega)
    rw [show ((y : Int) + 1) = ((y + 1 : Nat) : Int) by omega, this, colFrom_succ]
    simp
theorem board_loop (w h : Nat) (hw : w ≤ 100) (hh : h ≤ 100) (e : Nat) : ∀ (k x : Nat) (acc : List S30), x + e = w → e * (h + 2) + 1 ≤ k → acc.length + e * h ≤ 20000 →
    impl_board.l0 k (h : Int) acc (w : Int) (x : Int) = some (acc ++ rowsFrom h x e) := by
  induction e with
  | zero =>
    intro k x acc hx hk hl
    obtain ⟨k, rfl⟩ : ∃ m, k = m + 1 := ⟨k - 1, by omega⟩
    simp only [impl_board.l0]
    rw [if_neg (by omega)]
    simp [rowsFrom]
  | succ e ih =>
    intro k x acc hx hk hl
    obtain ⟨k, rfl⟩ : ∃ m, k = m + 1 := ⟨k - 1, by omega⟩
    rw [Nat.succ_mul] at hk hl
    simp only [impl_board.l0]
    rw [if_pos (by omega)]
    have := board_in w h hh x (e * (h + 2) + 1) (rowsFrom h (x + 1) e) (acc.length + h) (by omega) (fun k' acc' hk' hl' => by
      rw [w64 (by omega) (by omega)]
      exact ih k' (x + 1) acc' (by omega) hk' (by omega)) h k 0 acc (by omega) (by omega) (by omega)
    rw [show ((0 : Nat) : Int) = 0 from rfl] at this
    rw [this, rowsFrom_succ, List.append_assoc]
theorem board_eq (k w h : Nat) (hw : w ≤ 100) (hh : h ≤ 100) (hk : 10300 ≤ k) : impl_board.f k (w : Int) (h : Int) = some (rowsFrom h 0 w) := by
  unfold impl_board.f
  have h1 : w * (h + 2) ≤ 100 * 102 := Nat.mul_le_mul hw (by omega)
  have h2 : w * h ≤ 100 * 100 := Nat.mul_le_mul hw hh
  have := board_loop w h hw hh w k 0 [] (by omega) (by omega) (by simp; omega)
  rw [show ((0 : Nat) : Int) = 0 from rfl] at this
  rw [this]
  simp

theorem rows_bound (h x e M : Nat) (hM : x + e ≤ M) (hh : h ≤ M) : ∀ p ∈ rowsFrom h x e, (0 ≤ p.f0 ∧ p.f0 < M) ∧ (0 ≤ p.f1 ∧ p.f1 < M) := by
  intro p hp
  unfold rowsFrom at hp
  rw [List.mem_flatMap] at hp
  obtain ⟨a, ha, hp⟩ := hp
  rw [List.mem_map] at hp
  obtain ⟨b, hb, rfl⟩ := hp
  rw [List.mem_range'_1] at ha hb
  refine ⟨⟨?_, ?_⟩, ⟨?_, ?_⟩⟩ <;> simp <;> omega

theorem same_ends (a b : Int × Bool) (h : a = b) : (if b.1 = a.1 then (if (b.2 != a.2) = true then some false else some true) else some false) = some true := by
  subst h
  simp

/-- A peg near by. -/
def inB (p : S30) : Prop := (-((100 : Nat) : Int) ≤ p.f0 ∧ p.f0 ≤ ((100 : Nat) : Int)) ∧ (-((100 : Nat) : Int) ≤ p.f1 ∧ p.f1 ≤ ((100 : Nat) : Int))
theorem area_small {a b c : S30} (ha : inB a) (hb : inB b) (hc : inB c) : -100000 ≤ tri a.f0 a.f1 b.f0 b.f1 c.f0 c.f1 ∧ tri a.f0 a.f1 b.f0 b.f1 c.f0 c.f1 ≤ 100000 := by
  unfold inB at ha hb hc
  unfold tri
  have q1 := mul_bd 200 200 (x := b.f0 - a.f0) (y := c.f1 - a.f1) (by omega) (by omega)
  have q2 := mul_bd 200 200 (x := b.f1 - a.f1) (y := c.f0 - a.f0) (by omega) (by omega)
  omega

abbrev visA := Int
def visT (tw : Int) (a b c : S30) (acc : Int) : Int := if ((tri a.f0 a.f1 b.f0 b.f1 c.f0 c.f1).natAbs : Int) = tw then wrap64 (acc + 1) else acc
theorem visT_eq (tw : Int) (a b c : S30) (acc : Int) (ha : inB a) (hb : inB b) (hc : inB c) : impl_CountOfArea_1.f a.f0 a.f1 b.f0 b.f1 c.f0 c.f1 tw acc = some (visT tw a b c acc) := by
  obtain ⟨e1, e2⟩ := area_small ha hb hc
  unfold inB at ha hb hc
  unfold impl_CountOfArea_1.f
  rw [turn_eq 100 (by omega) ha.1 ha.2 hb.1 hb.2 hc.1 hc.2, Option.bind_some, size_eq (by omega), Option.bind_some]
  unfold visT
  split <;> rfl

def T2 (tw : Int) (a b : S30) : List S30 → visA → visA
  | [], acc => acc
  | c :: l, acc => T2 tw a b l (visT tw a b c acc)
def T1 (tw : Int) (L : List S30) (a : S30) : Nat → Nat → visA → visA
  | 0, _, acc => acc
  | d + 1, j, acc => T1 tw L a d (j + 1) (T2 tw a (L.getD j z30) (L.take j) acc)
def T0 (tw : Int) (L : List S30) : Nat → Nat → visA → visA
  | 0, _, acc => acc
  | d + 1, i, acc => T0 tw L d (i + 1) (T1 tw L (L.getD i z30) i 0 acc)

theorem threes_l2 (tw : Int) (L : List S30) (n i : Int) (a b : S30) (ha : inB a) (hb : inB b) (C : List S30) (hC : ∀ p ∈ C, inB p) (hlen : C.length ≤ 100000) (K0 : Nat) (R : visA) (B : List S30) (nB x21 : Int) (d : Nat) :
    ∀ (k j : Nat) (acc : visA), j + d = C.length → K0 + d + 10 ≤ k →
    (∀ k', K0 ≤ k' → impl_threes.l1 k' L L n i B nB (wrap64 (x21 + 1)) (T2 tw a b (C.drop j) acc) tw a.f0 a.f1 = some R) →
    impl_threes.l2 k L L n i B nB x21 C (C.length : Int) (j : Int) acc tw a.f0 a.f1 b.f0 b.f1 = some R := by
  induction d with
  | zero =>
    intro k j acc hj hk hc
    obtain ⟨k, rfl⟩ : ∃ m, k = m + 1 := ⟨k - 1, by omega⟩
    have h1 := hc k (by omega)
    rw [List.drop_of_length_le (by omega)] at h1
    simp only [impl_threes.l2]
    rw [if_neg (by omega)]
    exact h1
  | succ d ih =>
    intro k j acc hj hk hc
    obtain ⟨k, rfl⟩ : ∃ m, k = m + 1 := ⟨k - 1, by omega⟩
    have hlt : j < C.length := by omega
    have hr : rd_T30 C (j : Int) = C[j] := by
      unfold rd_T30
      simp [List.getD_eq_getElem?_getD, List.getElem?_eq_getElem hlt]
    have hp := hC C[j] (List.getElem_mem hlt)
    rw [List.drop_eq_getElem_cons hlt, T2] at hc
    simp only [impl_threes.l2]
    rw [if_pos (by omega), if_pos (by omega), if_pos (by omega), hr]
    rw [visT_eq tw a b C[j] acc ha hb hp, Option.bind_some, w64 (x := (j : Int) + 1) (by omega) (by omega)]
    exact ih k (j + 1) _ (by omega) (by omega) hc
theorem threes_l1 (tw : Int) (L : List S30) (hL : ∀ p ∈ L, inB p) (hlen : L.length ≤ 100000) (n : Int) (i m : Nat) (_hi : i ≤ L.length) (hm : m ≤ L.length) (a : S30) (ha : inB a) (K0 : Nat) (R : visA) (d : Nat) :
    ∀ (k j : Nat) (acc : visA), j + d = m → K0 + d * (L.length + 20) + 1 ≤ k →
    (∀ k', K0 ≤ k' → impl_threes.l0 k' L L n (wrap64 ((i : Int) + 1)) (T1 tw L a d j acc) tw = some R) →
    impl_threes.l1 k L L n (i : Int) (L.take m) ((L.take m).length : Int) (j : Int) acc tw a.f0 a.f1 = some R := by
  have hti : (L.take m).length = m := by rw [List.length_take]; omega
  induction d with
  | zero =>
    intro k j acc hj hk hc
    obtain ⟨k, rfl⟩ : ∃ m, k = m + 1 := ⟨k - 1, by omega⟩
    have h1 := hc k (by omega)
    rw [T1] at h1
    simp only [impl_threes.l1]
    rw [if_neg (by omega)]
    exact h1
  | succ d ih =>
    intro k j acc hj hk hc
    obtain ⟨k, rfl⟩ : ∃ m, k = m + 1 := ⟨k - 1, by omega⟩
    rw [Nat.succ_mul] at hk
    have hr : rd_T30 (L.take m) (j : Int) = L.getD j z30 := by
      unfold rd_T30
      rw [List.getD_eq_getElem?_getD, List.getD_eq_getElem?_getD, List.getElem?_take]
      simp [show j < m by omega]
    have hp : inB (L.getD j z30) := by
      rw [List.getD_eq_getElem?_getD, List.getElem?_eq_getElem (by omega), Option.getD_some]
      exact hL _ (List.getElem_mem _)
    have htj : (L.take j).length = j := by rw [List.length_take]; omega
    rw [T1] at hc
    simp only [impl_threes.l1]
    rw [if_pos (by omega), if_pos (by omega), if_pos (by omega), if_pos (by omega), Option.bind_some, hr, show ((j : Int)).toNat = j from rfl]
    refine threes_l2 tw L _ _ a (L.getD j z30) ha hp (L.take j) (fun p h => hL p (List.mem_of_mem_take h)) (by omega) (K0 + d * (L.length + 20) + 1) R _ _ _ (L.take j).length k 0 acc (by omega) (by omega) fun k' hk' => ?_
    rw [w64 (x := (j : Int) + 1) (by omega) (by omega), List.drop_zero]
    exact ih k' (j + 1) _ (by omega) (by omega) hc
theorem threes_l0 (tw : Int) (L : List S30) (hL : ∀ p ∈ L, inB p) (hlen : L.length ≤ 2000) (d : Nat) : ∀ (k i : Nat) (acc : visA), i + d = L.length → d * 5000000 + 5 ≤ k →
    impl_threes.l0 k L L (L.length : Int) (i : Int) acc tw = some (T0 tw L d i acc) := by
  induction d with
  | zero =>
    intro k i acc hi hk
    obtain ⟨k, rfl⟩ : ∃ m, k = m + 1 := ⟨k - 1, by omega⟩
    simp only [impl_threes.l0]
    rw [if_neg (by omega), T0]
  | succ d ih =>
    intro k i acc hi hk
    obtain ⟨k, rfl⟩ : ∃ m, k = m + 1 := ⟨k - 1, by omega⟩
    have hr : rd_T30 L (i : Int) = L.getD i z30 := by
      unfold rd_T30
      rw [show ((i : Int)).toNat = i from rfl]
    have hp : inB (L.getD i z30) := by
      rw [List.getD_eq_getElem?_getD, List.getElem?_eq_getElem (by omega), Option.getD_some]
      exact hL _ (List.getElem_mem _)
    have hm : i * (L.length + 20) ≤ 2000 * 2020 := Nat.mul_le_mul (by omega) (by omega)
    rw [T0]
    simp only [impl_threes.l0]
    rw [if_pos (by omega), if_pos (by omega), if_pos (by omega), if_pos (by omega), Option.bind_some, hr, show ((i : Int)).toNat = i from rfl]
    have hgo := threes_l1 tw L hL (by omega) (L.length : Int) i i (by omega) (by omega) (L.getD i z30) hp (d * 5000000 + 5) (T0 tw L d (i + 1) (T1 tw L (L.getD i z30) i 0 acc)) i k 0 acc (by omega) (by omega) fun k' hk' => by
      rw [w64 (x := (i : Int) + 1) (by omega) (by omega)]
      exact ih k' (i + 1) _ (by omega) hk'

    exact hgo

theorem areaS_l2 (tw : Int) (L : List S30) (n i : Int) (a b : S30) (ha : inB a) (hb : inB b) (C : List S30) (hC : ∀ p ∈ C, inB p) (hlen : C.length ≤ 100000) (K0 : Nat) (R : Int × Bool) (B : List S30) (nB x21 : Int) (d : Nat) :
    ∀ (k j : Nat) (acc : visA), j + d = C.length → K0 + d + 10 ≤ k →
    (∀ k', K0 ≤ k' → spec_CountOfArea.l1 k' tw (T2 tw a b (C.drop j) acc) L L n i B nB (wrap64 (x21 + 1)) a.f0 a.f1 = some R) →
    spec_CountOfArea.l2 k tw acc L L n i B nB x21 C (C.length : Int) (j : Int) a.f0 a.f1 b.f0 b.f1 = some R := by
  induction d with
  | zero =>
    intro k j acc hj hk hc
    obtain ⟨k, rfl⟩ : ∃ m, k = m + 1 := ⟨k - 1, by omega⟩
    have h1 := hc k (by omega)
    rw [List.drop_of_length_le (by omega)] at h1
    simp only [spec_CountOfArea.l2]
    rw [if_neg (by omega)]
    exact h1
  | succ d ih =>
    intro k j acc hj hk hc
    obtain ⟨k, rfl⟩ : ∃ m, k = m + 1 := ⟨k - 1, by omega⟩
    have hlt : j < C.length := by omega
    have hr : rd_T30 C (j : Int) = C[j] := by
      unfold rd_T30
      simp [List.getD_eq_getElem?_getD, List.getElem?_eq_getElem hlt]
    have hp := hC C[j] (List.getElem_mem hlt)
    rw [List.drop_eq_getElem_cons hlt, T2] at hc
    simp only [spec_CountOfArea.l2]
    rw [if_pos (by omega), if_pos (by omega), if_pos (by omega), hr]
    obtain ⟨e1, e2⟩ := area_small ha hb hp
    unfold inB at ha hb hp
    rw [pgTurn_eq 100 (by omega) ha.1 ha.2 hb.1 hb.2 hp.1 hp.2, Option.bind_some, l1Abs_eq (by omega), Option.bind_some, w64 (x := (j : Int) + 1) (by omega) (by omega)]
    have e3 : visT tw a b C[j] acc = if ((tri a.f0 a.f1 b.f0 b.f1 C[j].f0 C[j].f1).natAbs : Int) = tw then wrap64 (acc + 1) else acc := rfl
    rw [e3] at hc
    by_cases g : ((tri a.f0 a.f1 b.f0 b.f1 C[j].f0 C[j].f1).natAbs : Int) = tw
    · rw [if_pos g] at hc ⊢
      exact ih k (j + 1) _ (by omega) (by omega) hc
    · rw [if_neg g] at hc ⊢
      exact ih k (j + 1) _ (by omega) (by omega) hc
theorem areaS_l1 (tw : Int) (L : List S30) (hL : ∀ p ∈ L, inB p) (hlen : L.length ≤ 100000) (n : Int) (i m : Nat) (_hi : i ≤ L.length) (hm : m ≤ L.length) (a : S30) (ha : inB a) (K0 : Nat) (R : Int × Bool) (d : Nat) :
    ∀ (k j : Nat) (acc : visA), j + d = m → K0 + d * (L.length + 20) + 1 ≤ k →
    (∀ k', K0 ≤ k' → spec_CountOfArea.l0 k' tw (T1 tw L a d j acc) L L n (wrap64 ((i : Int) + 1)) = some R) →
    spec_CountOfArea.l1 k tw acc L L n (i : Int) (L.take m) ((L.take m).length : Int) (j : Int) a.f0 a.f1 = some R := by
  have hti : (L.take m).length = m := by rw [List.length_take]; omega
  induction d with
  | zero =>
    intro k j acc hj hk hc
    obtain ⟨k, rfl⟩ : ∃ m, k = m + 1 := ⟨k - 1, by omega⟩
    have h1 := hc k (by omega)
    rw [T1] at h1
    simp only [spec_CountOfArea.l1]
    rw [if_neg (by omega)]
    exact h1
  | succ d ih =>
    intro k j acc hj hk hc
    obtain ⟨k, rfl⟩ : ∃ m, k = m + 1 := ⟨k - 1, by omega⟩
    rw [Nat.succ_mul] at hk
    have hr : rd_T30 (L.take m) (j : Int) = L.getD j z30 := by
      unfold rd_T30
      rw [List.getD_eq_getElem?_getD, List.getD_eq_getElem?_getD, List.getElem?_take]
      simp [show j < m by omega]
    have hp : inB (L.getD j z30) := by
      rw [List.getD_eq_getElem?_getD, List.getElem?_eq_getElem (by omega), Option.getD_some]
      exact hL _ (List.getElem_mem _)
    have htj : (L.take j).length = j := by rw [List.length_take]; omega
    rw [T1] at hc
    simp only [spec_CountOfArea.l1]
    rw [if_pos (by omega), if_pos (by omega), if_pos (by omega), if_pos (by omega), Option.bind_some, hr, show ((j : Int)).toNat = j from rfl]
    refine areaS_l2 tw L _ _ a (L.getD j z30) ha hp (L.take j) (fun p h => hL p (List.mem_of_mem_take h)) (by omega) (K0 + d * (L.length + 20) + 1) R _ _ _ (L.take j).length k 0 acc (by omega) (by omega) fun k' hk' => ?_
    rw [w64 (x := (j : Int) + 1) (by omega) (by omega), List.drop_zero]
    exact ih k' (j + 1) _ (by omega) (by omega) hc
theorem areaS_l0 (tw : Int) (L : List S30) (hL : ∀ p ∈ L, inB p) (hlen : L.length ≤ 2000) (d : Nat) : ∀ (k i : Nat) (acc : visA), i + d = L.length → d * 5000000 + 5 ≤ k →
    spec_CountOfArea.l0 k tw acc L L (L.length : Int) (i : Int) = some ((T0 tw L d i acc), true) := by
  induction d with
  | zero =>
    intro k i acc hi hk
    obtain ⟨k, rfl⟩ : ∃ m, k = m + 1 := ⟨k - 1, by omega⟩
    simp only [spec_CountOfArea.l0]
    rw [if_neg (by omega), T0]
  | succ d ih =>
    intro k i acc hi hk
    obtain ⟨k, rfl⟩ : ∃ m, k = m + 1 := ⟨k - 1, by omega⟩
    have hr : rd_T30 L (i : Int) = L.getD i z30 := by
      unfold rd_T30
      rw [show ((i : Int)).toNat = i from rfl]
    have hp : inB (L.getD i z30) := by
      rw [List.getD_eq_getElem?_getD, List.getElem?_eq_getElem (by omega), Option.getD_some]
      exact hL _ (List.getElem_mem _)
    have hm : i * (L.length + 20) ≤ 2000 * 2020 := Nat.mul_le_mul (by omega) (by omega)
    rw [T0]
    simp only [spec_CountOfArea.l0]
    rw [if_pos (by omega), if_pos (by omega), if_pos (by omega), if_pos (by omega), Option.bind_some, hr, show ((i : Int)).toNat = i from rfl]
    have hgo := areaS_l1 tw L hL (by omega) (L.length : Int) i i (by omega) (by omega) (L.getD i z30) hp (d * 5000000 + 5) ((T0 tw L d (i + 1) (T1 tw L (L.getD i z30) i 0 acc)), true) i k 0 acc (by omega) (by omega) fun k' hk' => by
      rw [w64 (x := (i : Int) + 1) (by omega) (by omega)]
      exact ih k' (i + 1) _ (by omega) hk'

    exact hgo

theorem ctBoardM (w h m : Int) (_hm : 0 ≤ m ∧ m ≤ 100) : spec_ctBoard.f w h m = some (decide ((1 ≤ w ∧ w ≤ m) ∧ (1 ≤ h ∧ h ≤ m))) := by
  unfold spec_ctBoard.f
  simp only [in_eq, Option.bind_some]
  by_cases c : 1 ≤ w ∧ w ≤ m
  · simp [c]
  · simp [c]
theorem isBoardM (w h m : Int) (_hm : 0 ≤ m ∧ m ≤ 100) : impl_isBoard.f w h m = some (decide ((1 ≤ w ∧ w ≤ m) ∧ (1 ≤ h ∧ h ≤ m))) := by
  unfold impl_isBoard.f
  simp only [within_eq, Option.bind_some]
  by_cases c : 1 ≤ w ∧ w ≤ m
  · simp [c]
  · simp [c]

/-- The one pure statement of the law FnExactCountOfArea. -/
def FnExactCountOfArea.Pure : Prop :=
  ∀ (a0 : Int) (a1 : Int) (a2 : Int), I64 a0 → I64 a1 → I64 a2 → ∃ k, laws_FnExactCountOfArea.f k a0 a1 a2 = some true

theorem FnExactCountOfArea : FnExactCountOfArea.Pure := by
  intro w h tw _ _ _
  obtain ⟨k, hk⟩ : ∃ k : Nat, 11000000000 ≤ k := ⟨11000000000, Nat.le_refl _⟩
  refine ⟨k + 1, ?_⟩
  have key : ∃ r, spec_CountOfArea.f (k + 1) w h tw = some r ∧ impl_CountOfArea.f (k + 1) w h tw = some r := by
    unfold spec_CountOfArea.f impl_CountOfArea.f
    rw [ctBoardM w h 6 (by omega), isBoardM w h 6 (by omega), Option.bind_some, Option.bind_some]
    by_cases c : (1 ≤ w ∧ w ≤ 6) ∧ (1 ≤ h ∧ h ≤ 6)
    · rw [decide_eq_true c, if_pos rfl, if_pos rfl, in_eq, within_eq, Option.bind_some, Option.bind_some]
      by_cases c2 : 0 ≤ tw ∧ tw ≤ 200
      · rw [decide_eq_true c2]
        obtain ⟨W, rfl⟩ : ∃ W : Nat, w = W := ⟨w.toNat, by omega⟩
        obtain ⟨H, rfl⟩ : ∃ H : Nat, h = H := ⟨h.toNat, by omega⟩
        have hb : ∀ p ∈ rowsFrom H 0 W, inB p := by
          intro p hp
          have := rows_bound H 0 W 100 (by omega) (by omega) p hp
          unfold inB
          omega
        have hlen := rowsFrom_length H 0 W
        have hm : W * H ≤ 6 * 6 := Nat.mul_le_mul (by omega) (by omega)
        refine ⟨(T0 tw (rowsFrom H 0 W) (rowsFrom H 0 W).length 0 0, true), ?_, ?_⟩
        · simp only [spec_CountOfArea.j0]
          rw [if_neg (by decide), ctPegs_eq k W H (by omega) (by omega) (by omega), Option.bind_some]
          exact areaS_l0 tw (rowsFrom H 0 W) hb (by omega) (rowsFrom H 0 W).length k 0 0 (by omega) (by omega)
        · simp only [impl_CountOfArea.j0]
          rw [if_neg (by decide), board_eq k W H (by omega) (by omega) (by omega), Option.bind_some]
          unfold impl_threes.f
          have := threes_l0 tw (rowsFrom H 0 W) hb (by omega) (rowsFrom H 0 W).length k 0 0 (by omega) (by omega)
          rw [show ((0 : Nat) : Int) = 0 from rfl] at this
          rw [this, Option.bind_some]
      · rw [decide_eq_false c2]
        exact ⟨(0, false), rfl, rfl⟩
    · rw [decide_eq_false c, if_neg (by decide), if_neg (by decide)]
      exact ⟨(0, false), rfl, rfl⟩
  obtain ⟨r, h1, h2⟩ := key
  unfold laws_FnExactCountOfArea.f
  rw [h1, Option.bind_some, h2, Option.bind_some]
  exact same_ends r r rfl

end Go.Proofs.Ytookmifpgclhlaa.Pure
