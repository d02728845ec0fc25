/- The program's PegsSeen returns what the reference's returns, for all arguments. No condition. -/
import Derived.Test.YtookmifpgclhlaaMSx0
import Derived.Test.YtookmifpgclhlaaMSx2
import Derived.Test.YtookmifpgclhlaaMSx3
import Derived.Test.YtookmifpgclhlaaMSx6
import Derived.Test.YtookmifpgclhlaaMSx7
import Derived.Test.YtookmifpgclhlaaMSx8
import Derived.Test.YtookmifpgclhlaaMSx9
import Derived.Test.YtookmifpgclhlaaV
namespace Go.Proofs.Ytookmifpgclhlaa.Pure
open Go.RowKit Go.Proofs.YtookmifpgclhlaaV Go.Proofs.Ytookmifpgclhlaa.MS Go.Proofs.YtookmifpgclhlaaW.PrintWords Go.Proofs.YtookmifpgclhlaaW.PrintLast Go.Proofs.YtookmifpgclhlaaW.PrintMore

theorem in_eq (a lo hi : Int) : spec_l1In.f a lo hi = some (decide (lo ≤ a ∧ a ≤ hi)) := by
  unfold spec_l1In.f
  by_cases h : lo ≤ a
  · rw [if_pos h]; simp [h]
  · rw [if_neg h]; simp [h]

theorem within_eq (a lo hi : Int) : impl_within.f a lo hi = some (decide (lo ≤ a ∧ a ≤ hi)) := by
  unfold impl_within.f
  by_cases h : lo ≤ a
  · rw [if_pos h]; simp [h]
  · rw [if_neg h]; simp [h]

theorem w64 {x : Int} (h0 : -9223372036854775808 ≤ x) (h1 : x ≤ 9223372036854775807) : wrap64 x = x := by
  unfold wrap64
  omega

theorem ctBoard_eq (w h m : Int) : spec_ctBoard.f w h m = some (decide ((1 ≤ w ∧ w ≤ m) ∧ (1 ≤ h ∧ h ≤ m))) := by
  unfold spec_ctBoard.f
  simp only [in_eq, Option.bind_some]
  by_cases c : 1 ≤ w ∧ w ≤ m
  · simp [c]
  · simp [c]

theorem isBoard_eq (w h m : Int) : impl_isBoard.f w h m = some (decide ((1 ≤ w ∧ w ≤ m) ∧ (1 ≤ h ∧ h ≤ m))) := by
  unfold impl_isBoard.f
  simp only [within_eq, Option.bind_some]
  by_cases c : 1 ≤ w ∧ w ≤ m
  · simp [c]
  · simp [c]

theorem size_eq {x : Int} (h : -9223372036854775807 ≤ x ∧ x ≤ 9223372036854775807) : impl_size.f x = some (x.natAbs : Int) := by
  unfold impl_size.f mx
  rw [w64 (x := -x) (by omega) (by omega)]
  split
  · congr 1; omega
  · congr 1; omega

theorem l1Abs_eq {x : Int} (h : -9223372036854775807 ≤ x ∧ x ≤ 9223372036854775807) : spec_l1Abs.f x = some (x.natAbs : Int) := by
  unfold spec_l1Abs.f spec_l1Most.f
  rw [w64 (x := -x) (by omega) (by omega)]
  split
  · show some x = _
    congr 1; omega
  · show some (-x) = _
    congr 1; omega

theorem gcd_step (a b : Int) (hb : b ≠ 0) : Int.gcd b (Int.tmod a b) = Int.gcd a b ∧ (Int.tmod a b).natAbs < b.natAbs := by
  have h1 : (Int.tmod a b).natAbs = a.natAbs % b.natAbs := Int.natAbs_tmod a b
  have hb' : 0 < b.natAbs := by omega
  refine ⟨?_, by rw [h1]; exact Nat.mod_lt _ hb'⟩
  unfold Int.gcd
  rw [h1, Nat.gcd_comm a.natAbs b.natAbs, Nat.gcd_rec b.natAbs a.natAbs, Nat.gcd_comm]

theorem divisor_loop (n : Nat) : ∀ (k : Nat) (a b : Int), b.natAbs ≤ n → n < k → a.natAbs ≤ 9223372036854775807 → b.natAbs ≤ 9223372036854775807 → impl_divisor.l0 k a b = some (Int.gcd a b : Int) := by
  induction n with
  | zero =>
    intro k a b hb hk ha _
    obtain ⟨k, rfl⟩ : ∃ m, k = m + 1 := ⟨k - 1, by omega⟩
    have h0 : b = 0 := by omega
    subst h0
    rw [impl_divisor.l0, if_pos rfl, size_eq (by omega)]
    simp [Int.gcd]
  | succ n ih =>
    intro k a b hb hk ha hb2
    obtain ⟨k, rfl⟩ : ∃ m, k = m + 1 := ⟨k - 1, by omega⟩
    by_cases h0 : b = 0
    · exact ih (k + 1) a b (by omega) (by omega) ha hb2
    · obtain ⟨e, hlt⟩ := gcd_step a b h0
      simp only [impl_divisor.l0]
      rw [if_neg h0, ih k b (Int.tmod a b) (by omega) (by omega) hb2 (by omega), e]

theorem divisor_eq (k : Nat) {a b : Int} (hk : b.natAbs < k) (ha : a.natAbs ≤ 9223372036854775807) (hb : b.natAbs ≤ 9223372036854775807) : impl_divisor.f k a b = some (Int.gcd a b : Int) :=
  divisor_loop b.natAbs k a b (Nat.le_refl _) hk ha hb

theorem common_loop (n : Nat) : ∀ (k : Nat) (a b : Int), 0 ≤ a → 0 ≤ b → b.natAbs ≤ n → n < k → spec_pgCommon.l0 k a b = some (Int.gcd a b : Int) := by
  induction n with
  | zero =>
    intro k a b ha _ hb hk
    obtain ⟨k, rfl⟩ : ∃ m, k = m + 1 := ⟨k - 1, by omega⟩
    have h0 : b = 0 := by omega
    subst h0
    simp only [spec_pgCommon.l0]
    rw [if_neg (by omega)]
    simp only [Int.gcd, Int.natAbs_zero, Nat.gcd_zero_right]
    congr 1; omega
  | succ n ih =>
    intro k a b ha hb0 hb hk
    obtain ⟨k, rfl⟩ : ∃ m, k = m + 1 := ⟨k - 1, by omega⟩
    by_cases h0 : b = 0
    · exact ih (k + 1) a b ha hb0 (by omega) (by omega)
    · obtain ⟨e, hlt⟩ := gcd_step a b h0
      simp only [spec_pgCommon.l0]
      rw [if_pos (by omega), if_neg h0, ih k b (Int.tmod a b) hb0 (Int.tmod_nonneg _ ha) (by omega) (by omega), e]

theorem common_eq (k : Nat) {a b : Int} (hk : b.natAbs < k) (ha : a.natAbs ≤ 9223372036854775807) (hb : b.natAbs ≤ 9223372036854775807) : spec_pgCommon.f k a b = some (Int.gcd a b : Int) := by
  unfold spec_pgCommon.f
  rw [l1Abs_eq (x := a) (by omega), l1Abs_eq (x := b) (by omega)]
  simp only [Option.bind_some]
  rw [common_loop b.natAbs k _ _ (by omega) (by omega) (by omega) hk]
  simp [Int.gcd]

theorem steps_eq (M : Nat) (hM : M ≤ 1000000) (k : Nat) {ax ay bx by_ : Int} (h1 : -(M : Int) ≤ ax ∧ ax ≤ M) (h2 : -(M : Int) ≤ ay ∧ ay ≤ M) (h3 : -(M : Int) ≤ bx ∧ bx ≤ M) (h4 : -(M : Int) ≤ by_ ∧ by_ ≤ M) (hk : 2 * M < k) :
    impl_steps.f k ax ay bx by_ = some (Int.gcd (ax - bx) (ay - by_) : Int) := by
  unfold impl_steps.f
  rw [w64 (x := ax - bx) (by omega) (by omega), w64 (x := ay - by_) (by omega) (by omega), divisor_eq k (by omega) (by omega) (by omega)]
  rfl

theorem pgStep_eq (M : Nat) (hM : M ≤ 1000000) (k : Nat) {ax ay bx by_ : Int} (h1 : -(M : Int) ≤ ax ∧ ax ≤ M) (h2 : -(M : Int) ≤ ay ∧ ay ≤ M) (h3 : -(M : Int) ≤ bx ∧ bx ≤ M) (h4 : -(M : Int) ≤ by_ ∧ by_ ≤ M) (hk : 2 * M < k) :
    spec_pgStep.f k ax ay bx by_ = some (Int.gcd (ax - bx) (ay - by_) : Int) := by
  unfold spec_pgStep.f
  rw [w64 (x := ax - bx) (by omega) (by omega), w64 (x := ay - by_) (by omega) (by omega), common_eq k (by omega) (by omega) (by omega)]
  rfl

/-- The pegs of a board from column x on, e columns. -/
def rowsFrom (h x e : Nat) : List S30 := (List.range' x e).flatMap fun (x : Nat) => (List.range' 0 h).map fun (y : Nat) => (⟨(x : Int), (y : Int)⟩ : S30)
def colFrom (x y d : Nat) : List S30 := (List.range' y d).map fun (y : Nat) => (⟨(x : Int), (y : Int)⟩ : S30)
theorem colFrom_succ (x y d : Nat) : colFrom x y (d + 1) = (⟨(x : Int), (y : Int)⟩ : S30) :: colFrom x (y + 1) d := by
  simp [colFrom, List.range'_succ]
theorem rowsFrom_succ (h x e : Nat) : rowsFrom h x (e + 1) = colFrom x 0 h ++ rowsFrom h (x + 1) e := by
  simp [rowsFrom, colFrom, List.range'_succ]
theorem rowsFrom_length (h x e : Nat) : (rowsFrom h x e).length = e * h := by
  induction e generalizing x with
  | zero => simp [rowsFrom]
  | succ e ih => rw [rowsFrom_succ, List.length_append, ih, Nat.succ_mul]; simp [colFrom]; omega

theorem ctPegs_in (w h : Nat) (hh : h ≤ 100) (x : Nat) (K0 : Nat) (R : List S30) (B : Nat) (hB : B ≤ 100000)
    (hc : ∀ k acc, K0 ≤ k → acc.length ≤ B → spec_ctPegs.l0 k (w : Int) (h : Int) acc (wrap64 ((x : Int) + 1)) = some (acc ++ R)) (d : Nat) : ∀ (k y : Nat) (acc : List S30), y + d = h → K0 + d + 1 ≤ k → acc.length + d ≤ B →
    spec_ctPegs.l1 k (w : Int) (h : Int) acc (x : Int) (y : Int) = some (acc ++ colFrom x y d ++ R) := by
  induction d with
  | zero =>
    intro k y acc hy hk hl
    obtain ⟨k, rfl⟩ : ∃ m, k = m + 1 := ⟨k - 1, by omega⟩
    simp only [spec_ctPegs.l1]
    rw [if_neg (by omega), hc k acc (by omega) (by omega)]
    simp [colFrom]
  | succ d ih =>
    intro k y acc hy hk hl
    obtain ⟨k, rfl⟩ : ∃ m, k = m + 1 := ⟨k - 1, by omega⟩
    simp only [spec_ctPegs.l1]
    rw [if_pos (by omega), if_pos (by omega), w64 (by omega) (by omega)]
    have := ih k (y + 1) (acc ++ [⟨(x : Int), (y : Int)⟩]) (by omega) (by omega) (by simp; omega)
    rw [show ((y : Int) + 1) = ((y + 1 : Nat) : Int) by omega, this, colFrom_succ]
    simp
theorem ctPegs_loop (w h : Nat) (hw : w ≤ 100) (hh : h ≤ 100) (e : Nat) : ∀ (k x : Nat) (acc : List S30), x + e = w → e * (h + 2) + 1 ≤ k → acc.length + e * h ≤ 20000 →
    spec_ctPegs.l0 k (w : Int) (h : Int) acc (x : Int) = some (acc ++ rowsFrom h x e) := by
  induction e with
  | zero =>
    intro k x acc hx hk hl
    obtain ⟨k, rfl⟩ : ∃ m, k = m + 1 := ⟨k - 1, by omega⟩
    simp only [spec_ctPegs.l0]
    rw [if_neg (by omega)]
    simp [rowsFrom]
  | succ e ih =>
    intro k x acc hx hk hl
    obtain ⟨k, rfl⟩ : ∃ m, k = m + 1 := ⟨k - 1, by omega⟩
    rw [Nat.succ_mul] at hk hl
    simp only [spec_ctPegs.l0]
    rw [if_pos (by omega)]
    have := ctPegs_in w h hh x (e * (h + 2) + 1) (rowsFrom h (x + 1) e) (acc.length + h) (by omega) (fun k' acc' hk' hl' => by
      rw [w64 (by omega) (by omega)]
      exact ih k' (x + 1) acc' (by omega) hk' (by omega)) h k 0 acc (by omega) (by omega) (by omega)
    rw [show ((0 : Nat) : Int) = 0 from rfl] at this
    rw [this, rowsFrom_succ, List.append_assoc]
theorem ctPegs_eq (k w h : Nat) (hw : w ≤ 100) (hh : h ≤ 100) (hk : 10300 ≤ k) : spec_ctPegs.f k (w : Int) (h : Int) = some (rowsFrom h 0 w) := by
  unfold spec_ctPegs.f
  have h1 : w * (h + 2) ≤ 100 * 102 := Nat.mul_le_mul hw (by omega)
  have h2 : w * h ≤ 100 * 100 := Nat.mul_le_mul hw hh
  have := ctPegs_loop w h hw hh w k 0 [] (by omega) (by omega) (by simp; omega)
  rw [show ((0 : Nat) : Int) = 0 from rfl] at this
  rw [this]
  simp

theorem board_in (w h : Nat) (hh : h ≤ 100) (x : Nat) (K0 : Nat) (R : List S30) (B : Nat) (hB : B ≤ 100000)
    (hc : ∀ k acc, K0 ≤ k → acc.length ≤ B → impl_board.l0 k (h : Int) acc (w : Int) (wrap64 ((x : Int) + 1)) = some (acc ++ R)) (d : Nat) : ∀ (k y : Nat) (acc : List S30), y + d = h → K0 + d + 1 ≤ k → acc.length + d ≤ B →
    impl_board.l1 k (h : Int) acc (x : Int) (w : Int) (x : Int) (h : Int) (y : Int) = some (acc ++ colFrom x y d ++ R) := by
  induction d with
  | zero =>
    intro k y acc hy hk hl
    obtain ⟨k, rfl⟩ : ∃ m, k = m + 1 := ⟨k - 1, by omega⟩
    simp only [impl_board.l1]
    rw [if_neg (by omega), hc k acc (by omega) (by omega)]
    simp [colFrom]
  | succ d ih =>
    intro k y acc hy hk hl
    obtain ⟨k, rfl⟩ : ∃ m, k = m + 1 := ⟨k - 1, by omega⟩
    simp only [impl_board.l1]
    rw [if_pos (by omega), if_pos (by omega), w64 (by omega) (by omega)]
    have := ih k (y + 1) (acc ++ [⟨(x : Int), (y : Int)⟩]) (by omega) (by omega) (by simp; omega)
    rw [show ((y : Int) + 1) = ((y + 1 : Nat) : Int) by omega, this, colFrom_succ]
    simp
theorem board_loop (w h : Nat) (hw : w ≤ 100) (hh : h ≤ 100) (e : Nat) : ∀ (k x : Nat) (acc : List S30), x + e = w → e * (h + 2) + 1 ≤ k → acc.length + e * h ≤ 20000 →
    impl_board.l0 k (h : Int) acc (w : Int) (x : Int) = some (acc ++ rowsFrom h x e) := by
  induction e with
  | zero =>
    intro k x acc hx hk hl
    obtain ⟨k, rfl⟩ : ∃ m, k = m + 1 := ⟨k - 1, by omega⟩
    simp only [impl_board.l0]
    rw [if_neg (by omega)]
    simp [rowsFrom]
  | succ e ih =>
    intro k x acc hx hk hl
    obtain ⟨k, rfl⟩ : ∃ m, k = m + 1 := ⟨k - 1, by omega⟩
    rw [Nat.succ_mul] at hk hl
    simp only [impl_board.l0]
    rw [if_pos (by omega)]
    have := board_in w h hh x (e * (h + 2) + 1) (rowsFrom h (x + 1) e) (acc.length + h) (by omega) (fun k' acc' hk' hl' => by
      rw [w64 (by omega) (by omega)]
      exact ih k' (x + 1) acc' (by omega) hk' (by omega)) h k 0 acc (by omega) (by omega) (by omega)
    rw [show ((0 : Nat) : Int) = 0 from rfl] at this
    rw [this, rowsFrom_succ, List.append_assoc]
theorem board_eq (k w h : Nat) (hw : w ≤ 100) (hh : h ≤ 100) (hk : 10300 ≤ k) : impl_board.f k (w : Int) (h : Int) = some (rowsFrom h 0 w) := by
  unfold impl_board.f
  have h1 : w * (h + 2) ≤ 100 * 102 := Nat.mul_le_mul hw (by omega)
  have h2 : w * h ≤ 100 * 100 := Nat.mul_le_mul hw hh
  have := board_loop w h hw hh w k 0 [] (by omega) (by omega) (by simp; omega)
  rw [show ((0 : Nat) : Int) = 0 from rfl] at this
  rw [this]
  simp

theorem rows_bound (h x e M : Nat) (hM : x + e ≤ M) (hh : h ≤ M) : ∀ p ∈ rowsFrom h x e, (0 ≤ p.f0 ∧ p.f0 < M) ∧ (0 ≤ p.f1 ∧ p.f1 < M) := by
  intro p hp
  unfold rowsFrom at hp
  rw [List.mem_flatMap] at hp
  obtain ⟨a, ha, hp⟩ := hp
  rw [List.mem_map] at hp
  obtain ⟨b, hb, rfl⟩ := hp
  rw [List.mem_range'_1] at ha hb
  refine ⟨⟨?_, ?_⟩, ⟨?_, ?_⟩⟩ <;> simp <;> omega

def seenB (px py : Int) (q : S30) : Bool := decide (Int.gcd (px - q.f0) (py - q.f1) = 1)
theorem seen_impl (px py : Int) (hx : -(100 : Int) ≤ px ∧ px ≤ 100) (hy : -(100 : Int) ≤ py ∧ py ≤ 100) (l : List S30) (hl : l.length ≤ 100000) (hb : ∀ p ∈ l, (-(100 : Int) ≤ p.f0 ∧ p.f0 ≤ 100) ∧ (-(100 : Int) ≤ p.f1 ∧ p.f1 ≤ 100)) (d : Nat) : ∀ (k i c : Nat), i + d = l.length → d + 300 < k → c + d ≤ 1000000 →
    impl_PegsSeen.l0 k (c : Int) l (l.length : Int) (i : Int) px py = some (((c + (l.drop i).countP (seenB px py) : Nat) : Int), true) := by
  induction d with
  | zero =>
    intro k i c hi hk hc
    obtain ⟨k, rfl⟩ : ∃ m, k = m + 1 := ⟨k - 1, by omega⟩
    simp only [impl_PegsSeen.l0]
    rw [if_neg (by omega), List.drop_of_length_le (by omega)]
    rfl
  | succ d ih =>
    intro k i c hi hk hc
    obtain ⟨k, rfl⟩ : ∃ m, k = m + 1 := ⟨k - 1, by omega⟩
    have hlt : i < l.length := by omega
    have hr : rd_T30 l (i : Int) = l[i] := by
      unfold rd_T30
      simp [List.getD_eq_getElem?_getD, List.getElem?_eq_getElem hlt]
    obtain ⟨hp0, hp1⟩ := hb l[i] (List.getElem_mem hlt)
    simp only [impl_PegsSeen.l0]
    rw [if_pos (by omega), if_pos (by omega), if_pos (by omega), hr, steps_eq 100 (by omega) k hx hy hp0 hp1 (by omega), Option.bind_some]
    rw [List.drop_eq_getElem_cons hlt, List.countP_cons, w64 (x := (i : Int) + 1) (by omega) (by omega), w64 (x := (c : Int) + 1) (by omega) (by omega)]
    by_cases g : Int.gcd (px - l[i].f0) (py - l[i].f1) = 1
    · rw [if_pos (by omega), show ((c : Int) + 1) = ((c + 1 : Nat) : Int) by omega, show ((i : Int) + 1) = ((i + 1 : Nat) : Int) by omega, ih k (i + 1) (c + 1) (by omega) (by omega) (by omega), if_pos (by simpa [seenB] using g)]
      congr 3
      omega
    · rw [if_neg (by omega), show ((i : Int) + 1) = ((i + 1 : Nat) : Int) by omega, ih k (i + 1) c (by omega) (by omega) (by omega), if_neg (by simpa [seenB] using g)]
      rfl
theorem seen_spec (px py : Int) (hx : -(100 : Int) ≤ px ∧ px ≤ 100) (hy : -(100 : Int) ≤ py ∧ py ≤ 100) (l : List S30) (hl : l.length ≤ 100000) (hb : ∀ p ∈ l, (-(100 : Int) ≤ p.f0 ∧ p.f0 ≤ 100) ∧ (-(100 : Int) ≤ p.f1 ∧ p.f1 ≤ 100)) (d : Nat) : ∀ (k i c : Nat), i + d = l.length → d + 300 < k → c + d ≤ 1000000 →
    spec_PegsSeen.l0 k (c : Int) l (l.length : Int) (i : Int) px py = some (((c + (l.drop i).countP (seenB px py) : Nat) : Int), true) := by
  induction d with
  | zero =>
    intro k i c hi hk hc
    obtain ⟨k, rfl⟩ : ∃ m, k = m + 1 := ⟨k - 1, by omega⟩
    simp only [spec_PegsSeen.l0]
    rw [if_neg (by omega), List.drop_of_length_le (by omega)]
    rfl
  | succ d ih =>
    intro k i c hi hk hc
    obtain ⟨k, rfl⟩ : ∃ m, k = m + 1 := ⟨k - 1, by omega⟩
    have hlt : i < l.length := by omega
    have hr : rd_T30 l (i : Int) = l[i] := by
      unfold rd_T30
      simp [List.getD_eq_getElem?_getD, List.getElem?_eq_getElem hlt]
    obtain ⟨hp0, hp1⟩ := hb l[i] (List.getElem_mem hlt)
    simp only [spec_PegsSeen.l0]
    rw [if_pos (by omega), if_pos (by omega), if_pos (by omega), hr, pgStep_eq 100 (by omega) k hx hy hp0 hp1 (by omega), Option.bind_some]
    rw [List.drop_eq_getElem_cons hlt, List.countP_cons, w64 (x := (i : Int) + 1) (by omega) (by omega), w64 (x := (c : Int) + 1) (by omega) (by omega)]
    by_cases g : Int.gcd (px - l[i].f0) (py - l[i].f1) = 1
    · have hne : (!(l[i].f0 == px) || !(l[i].f1 == py)) = true := by
        rw [Bool.or_eq_true, Bool.not_eq_true', Bool.not_eq_true', beq_eq_false_iff_ne, beq_eq_false_iff_ne]
        by_cases e0 : l[i].f0 = px
        · refine .inr fun e1 => ?_
          rw [e0, e1] at g
          simp at g
        · exact .inl e0
      rw [if_pos hne, if_pos (by omega), show ((c : Int) + 1) = ((c + 1 : Nat) : Int) by omega, show ((i : Int) + 1) = ((i + 1 : Nat) : Int) by omega, ih k (i + 1) (c + 1) (by omega) (by omega) (by omega), if_pos (by simpa [seenB] using g)]
      congr 3
      omega
    · rw [if_neg (show ¬ ((Int.gcd (px - l[i].f0) (py - l[i].f1) : Int) = 1) by omega), ite_self, show ((i : Int) + 1) = ((i + 1 : Nat) : Int) by omega, ih k (i + 1) c (by omega) (by omega) (by omega), if_neg (by simpa [seenB] using g)]
      rfl

theorem isOnBoard_eq (w h x y : Int) (hw : 1 ≤ w ∧ w ≤ 1000) (hh : 1 ≤ h ∧ h ≤ 1000) : impl_isOnBoard.f w h x y = some (decide ((0 ≤ x ∧ x ≤ w - 1) ∧ (0 ≤ y ∧ y ≤ h - 1))) := by
  unfold impl_isOnBoard.f
  rw [w64 (x := w - 1) (by omega) (by omega), w64 (x := h - 1) (by omega) (by omega)]
  simp only [within_eq, Option.bind_some]
  by_cases c : 0 ≤ x ∧ x ≤ w - 1
  · simp [c]
  · simp [c]

/-- The one pure statement of the law FnExactPegsSeen. -/
def FnExactPegsSeen.Pure : Prop :=
  ∀ (a0 : Int) (a1 : Int) (a2_0 : Int) (a2_1 : Int), I64 a0 → I64 a1 → I64 a2_0 → I64 a2_1 → ∃ k, laws_FnExactPegsSeen.f k a0 a1 a2_0 a2_1 = some true

theorem same_two (a b : Int × Bool) (h : a = b) : (if a.1 = b.1 then (if (a.2 != b.2) = true then some false else some true) else some false) = some true := by
  subst h
  simp
theorem FnExactPegsSeen : FnExactPegsSeen.Pure := by
  intro w h px py _ _ _ _
  obtain ⟨k, hk⟩ : ∃ k : Nat, 20000 ≤ k := ⟨20000, Nat.le_refl _⟩
  refine ⟨k + 1, ?_⟩
  have key : ∃ r, spec_PegsSeen.f (k + 1) w h px py = some r ∧ impl_PegsSeen.f (k + 1) w h px py = some r := by
    unfold spec_PegsSeen.f impl_PegsSeen.f
    rw [ctBoard_eq, isBoard_eq]
    simp only [Option.bind_some]
    by_cases c : (1 ≤ w ∧ w ≤ 12) ∧ (1 ≤ h ∧ h ≤ 12)
    · rw [if_pos (by simpa using c), if_pos (by simpa using c), isOnBoard_eq w h px py (by omega) (by omega), w64 (x := w - 1) (by omega) (by omega), w64 (x := h - 1) (by omega) (by omega), in_eq, in_eq]
      simp only [Option.bind_some]
      by_cases d : (0 ≤ px ∧ px ≤ w - 1) ∧ (0 ≤ py ∧ py ≤ h - 1)
      · obtain ⟨W, rfl⟩ : ∃ W : Nat, w = W := ⟨w.toNat, by omega⟩
        obtain ⟨H, rfl⟩ : ∃ H : Nat, h = H := ⟨h.toNat, by omega⟩
        have hb : ∀ p ∈ rowsFrom H 0 W, (-(100 : Int) ≤ p.f0 ∧ p.f0 ≤ 100) ∧ (-(100 : Int) ≤ p.f1 ∧ p.f1 ≤ 100) := by
          intro p hp
          have := rows_bound H 0 W 100 (by omega) (by omega) p hp
          omega
        have hlen := rowsFrom_length H 0 W
        have hm : W * H ≤ 12 * 12 := Nat.mul_le_mul (by omega) (by omega)
        refine ⟨(((0 + ((rowsFrom H 0 W).drop 0).countP (seenB px py) : Nat) : Int), true), ?_, ?_⟩
        rotate_left
        · rw [show (!decide ((0 ≤ px ∧ px ≤ (W : Int) - 1) ∧ (0 ≤ py ∧ py ≤ (H : Int) - 1))) = false by simpa using d]
          simp only [impl_PegsSeen.j0]
          rw [if_neg (by decide), board_eq k W H (by omega) (by omega) (by omega), Option.bind_some]
          have := seen_impl px py (by omega) (by omega) (rowsFrom H 0 W) (by omega) hb (rowsFrom H 0 W).length k 0 0 (by omega) (by omega) (by omega)
          exact this
        · rw [if_pos (by simpa using d.1)]
          rw [show (!decide (0 ≤ py ∧ py ≤ (H : Int) - 1)) = false by simpa using d.2]
          simp only [spec_PegsSeen.j0]
          rw [if_neg (by decide), ctPegs_eq k W H (by omega) (by omega) (by omega), Option.bind_some]
          have := seen_spec px py (by omega) (by omega) (rowsFrom H 0 W) (by omega) hb (rowsFrom H 0 W).length k 0 0 (by omega) (by omega) (by omega)
          exact this
      · refine ⟨(0, false), ?_, ?_⟩
        · by_cases d1 : 0 ≤ px ∧ px ≤ w - 1
          · rw [if_pos (by simpa using d1), show (!decide (0 ≤ py ∧ py ≤ h - 1)) = true by rw [Bool.not_eq_true', decide_eq_false_iff_not]; exact fun e => d ⟨d1, e⟩]
            simp [spec_PegsSeen.j0]
          · rw [if_neg (by rw [decide_eq_true_eq]; exact d1)]
            simp [spec_PegsSeen.j0]
        · rw [show (!decide ((0 ≤ px ∧ px ≤ w - 1) ∧ (0 ≤ py ∧ py ≤ h - 1))) = true by rw [Bool.not_eq_true', decide_eq_false_iff_not]; exact d]
          simp [impl_PegsSeen.j0]
    · refine ⟨(0, false), ?_, ?_⟩
      · rw [if_neg (by rw [decide_eq_true_eq]; exact c)]
        simp [spec_PegsSeen.j0]
      · rw [if_neg (by rw [decide_eq_true_eq]; exact c)]
        simp [impl_PegsSeen.j0]
  obtain ⟨r, h1, h2⟩ := key
  unfold laws_FnExactPegsSeen.f laws_toPeg.f
  rw [Option.bind_some, h1, Option.bind_some, Option.bind_some, h2, Option.bind_some]
  exact same_two r r rfl

end Go.Proofs.Ytookmifpgclhlaa.Pure
