/- The program's MakePuzzle returns what the reference's returns, for all arguments. No condition. -/
import Derived.Test.YtlhiificglpgkaaMLx0
import Derived.Test.YtlhiificglpgkaaMLx1
import Derived.Test.YtlhiificglpgkaaMLx2
import Derived.Test.YtlhiificglpgkaaMLx3
import Derived.Test.YtlhiificglpgkaaMLx4
import Derived.Test.YtlhiificglpgkaaMLx5
import Derived.Test.YtlhiificglpgkaaMLx6
import Derived.Test.YtlhiificglpgkaaMLx7
import Derived.Test.YtlhiificglpgkaaMLx8
import Derived.Test.YtlhiificglpgkaaMLx9
import Derived.Test.YtlhiificglpgkaaMLx10
import Derived.Test.YtlhiificglpgkaaMLx11
import Derived.Test.YtlhiificglpgkaaV
namespace Go.Proofs.Ytlhiificglpgkaa.Pure
open Go.RowKit Go.Proofs.YtlhiificglpgkaaV Go.Proofs.Ytlhiificglpgkaa.ML Go.Proofs.YtlhiificglpgkaaW.PrintWords Go.Proofs.YtlhiificglpgkaaW.PrintLast Go.Proofs.YtlhiificglpgkaaW.PrintMore

theorem in_eq (a lo hi : Int) : spec_l1In.f a lo hi = some (decide (lo ≤ a ∧ a ≤ hi)) := by
  unfold spec_l1In.f
  by_cases h : lo ≤ a
  · rw [if_pos h]; simp [h]
  · rw [if_neg h]; simp [h]

theorem within_eq (a lo hi : Int) : impl_within.f a lo hi = some (decide (lo ≤ a ∧ a ≤ hi)) := by
  unfold impl_within.f
  by_cases h : lo ≤ a
  · rw [if_pos h]; simp [h]
  · rw [if_neg h]; simp [h]

theorem w64 {x : Int} (h0 : -9223372036854775808 ≤ x) (h1 : x ≤ 9223372036854775807) : wrap64 x = x := by
  unfold wrap64
  omega

theorem mul_bd {x y : Int} (A B : Nat) (hx : -(A : Int) ≤ x ∧ x ≤ A) (hy : -(B : Int) ≤ y ∧ y ≤ B) : -((A * B : Nat) : Int) ≤ x * y ∧ x * y ≤ ((A * B : Nat) : Int) := by
  have h1 : x.natAbs ≤ A := by omega
  have h2 : y.natAbs ≤ B := by omega
  have h3 := Nat.mul_le_mul h1 h2
  rw [← Int.natAbs_mul] at h3
  omega

/-- Twice the area of three points. -/
def tri (ax ay bx by_ cx cy : Int) : Int := (bx - ax) * (cy - ay) - (by_ - ay) * (cx - ax)

theorem pgTurn_eq (M : Nat) (hM : M ≤ 1000000) {ax ay bx by_ cx cy : Int} (h1 : -(M : Int) ≤ ax ∧ ax ≤ M) (h2 : -(M : Int) ≤ ay ∧ ay ≤ M) (h3 : -(M : Int) ≤ bx ∧ bx ≤ M) (h4 : -(M : Int) ≤ by_ ∧ by_ ≤ M) (h5 : -(M : Int) ≤ cx ∧ cx ≤ M) (h6 : -(M : Int) ≤ cy ∧ cy ≤ M) :
    spec_pgTurn.f ax ay bx by_ cx cy = some (tri ax ay bx by_ cx cy) := by
  unfold spec_pgTurn.f tri
  rw [w64 (x := bx - ax) (by omega) (by omega), w64 (x := cy - ay) (by omega) (by omega), w64 (x := by_ - ay) (by omega) (by omega), w64 (x := cx - ax) (by omega) (by omega)]
  have q1 := mul_bd 2000000 2000000 (x := bx - ax) (y := cy - ay) (by omega) (by omega)
  have q2 := mul_bd 2000000 2000000 (x := by_ - ay) (y := cx - ax) (by omega) (by omega)
  rw [w64 (x := (bx - ax) * (cy - ay)) (by omega) (by omega), w64 (x := (by_ - ay) * (cx - ax)) (by omega) (by omega), w64 (by omega) (by omega)]

theorem size_eq {x : Int} (h : -9223372036854775807 ≤ x ∧ x ≤ 9223372036854775807) : impl_size.f x = some (x.natAbs : Int) := by
  unfold impl_size.f mx
  rw [w64 (x := -x) (by omega) (by omega)]
  split
  · congr 1; omega
  · congr 1; omega

theorem l1Abs_eq {x : Int} (h : -9223372036854775807 ≤ x ∧ x ≤ 9223372036854775807) : spec_l1Abs.f x = some (x.natAbs : Int) := by
  unfold spec_l1Abs.f spec_l1Most.f
  rw [w64 (x := -x) (by omega) (by omega)]
  split
  · show some x = _
    congr 1; omega
  · show some (-x) = _
    congr 1; omega

theorem gcd_step (a b : Int) (hb : b ≠ 0) : Int.gcd b (Int.tmod a b) = Int.gcd a b ∧ (Int.tmod a b).natAbs < b.natAbs := by
  have h1 : (Int.tmod a b).natAbs = a.natAbs % b.natAbs := Int.natAbs_tmod a b
  have hb' : 0 < b.natAbs := by omega
  refine ⟨?_, by rw [h1]; exact Nat.mod_lt _ hb'⟩
  unfold Int.gcd
  rw [h1, Nat.gcd_comm a.natAbs b.natAbs, Nat.gcd_rec b.natAbs a.natAbs, Nat.gcd_comm]

theorem divisor_loop (n : Nat) : ∀ (k : Nat) (a b : Int), b.natAbs ≤ n → n < k → a.natAbs ≤ 9223372036854775807 → b.natAbs ≤ 9223372036854775807 → impl_divisor.l0 k a b = some (Int.gcd a b : Int) := by
  induction n with
  | zero =>
    intro k a b hb hk ha _
    obtain ⟨k, rfl⟩ : ∃ m, k = m + 1 := ⟨k - 1, by omega⟩
    have h0 : b = 0 := by omega
    subst h0
    rw [impl_divisor.l0, if_pos rfl, size_eq (by omega)]
    simp [Int.gcd]
  | succ n ih =>
    intro k a b hb hk ha hb2
    obtain ⟨k, rfl⟩ : ∃ m, k = m + 1 := ⟨k - 1, by omega⟩
    by_cases h0 : b = 0
    · exact ih (k + 1) a b (by omega) (by omega) ha hb2
    · obtain ⟨e, hlt⟩ := gcd_step a b h0
      simp only [impl_divisor.l0]
      rw [if_neg h0, ih k b (Int.tmod a b) (by omega) (by omega) hb2 (by omega), e]

theorem divisor_eq (k : Nat) {a b : Int} (hk : b.natAbs < k) (ha : a.natAbs ≤ 9223372036854775807) (hb : b.natAbs ≤ 9223372036854775807) : impl_divisor.f k a b = some (Int.gcd a b : Int) :=
  divisor_loop b.natAbs k a b (Nat.le_refl _) hk ha hb

theorem common_loop (n : Nat) : ∀ (k : Nat) (a b : Int), 0 ≤ a → 0 ≤ b → b.natAbs ≤ n → n < k → spec_pgCommon.l0 k a b = some (Int.gcd a b : Int) := by
  induction n with
  | zero =>
    intro k a b ha _ hb hk
    obtain ⟨k, rfl⟩ : ∃ m, k = m + 1 := ⟨k - 1, by omega⟩
    have h0 : b = 0 := by omega
    subst h0
    simp only [spec_pgCommon.l0]
    rw [if_neg (by omega)]
    simp only [Int.gcd, Int.natAbs_zero, Nat.gcd_zero_right]
    congr 1; omega
  | succ n ih =>
    intro k a b ha hb0 hb hk
    obtain ⟨k, rfl⟩ : ∃ m, k = m + 1 := ⟨k - 1, by omega⟩
    by_cases h0 : b = 0
    · exact ih (k + 1) a b ha hb0 (by omega) (by omega)
    · obtain ⟨e, hlt⟩ := gcd_step a b h0
      simp only [spec_pgCommon.l0]
      rw [if_pos (by omega), if_neg h0, ih k b (Int.tmod a b) hb0 (Int.tmod_nonneg _ ha) (by omega) (by omega), e]

theorem common_eq (k : Nat) {a b : Int} (hk : b.natAbs < k) (ha : a.natAbs ≤ 9223372036854775807) (hb : b.natAbs ≤ 9223372036854775807) : spec_pgCommon.f k a b = some (Int.gcd a b : Int) := by
  unfold spec_pgCommon.f
  rw [l1Abs_eq (x := a) (by omega), l1Abs_eq (x := b) (by omega)]
  simp only [Option.bind_some]
  rw [common_loop b.natAbs k _ _ (by omega) (by omega) (by omega) hk]
  simp [Int.gcd]

theorem steps_eq (M : Nat) (hM : M ≤ 1000000) (k : Nat) {ax ay bx by_ : Int} (h1 : -(M : Int) ≤ ax ∧ ax ≤ M) (h2 : -(M : Int) ≤ ay ∧ ay ≤ M) (h3 : -(M : Int) ≤ bx ∧ bx ≤ M) (h4 : -(M : Int) ≤ by_ ∧ by_ ≤ M) (hk : 2 * M < k) :
    impl_steps.f k ax ay bx by_ = some (Int.gcd (ax - bx) (ay - by_) : Int) := by
  unfold impl_steps.f
  rw [w64 (x := ax - bx) (by omega) (by omega), w64 (x := ay - by_) (by omega) (by omega), divisor_eq k (by omega) (by omega) (by omega)]
  rfl

theorem pgStep_eq (M : Nat) (hM : M ≤ 1000000) (k : Nat) {ax ay bx by_ : Int} (h1 : -(M : Int) ≤ ax ∧ ax ≤ M) (h2 : -(M : Int) ≤ ay ∧ ay ≤ M) (h3 : -(M : Int) ≤ bx ∧ bx ≤ M) (h4 : -(M : Int) ≤ by_ ∧ by_ ≤ M) (hk : 2 * M < k) :
    spec_pgStep.f k ax ay bx by_ = some (Int.gcd (ax - bx) (ay - by_) : Int) := by
  unfold spec_pgStep.f
  rw [w64 (x := ax - bx) (by omega) (by omega), w64 (x := ay - by_) (by omega) (by omega), common_eq k (by omega) (by omega) (by omega)]
  rfl

/-- What a clue tells of a peg. -/
def tells (kd a b px py : Int) : Int := if kd = 0 then px else if kd = 1 then py else if kd = 2 then px + py else if kd = 3 then ((a * py - b * px).natAbs : Int) else if kd = 4 then (a - px) * (a - px) + (b - py) * (b - py) else if Int.gcd (a - px) (b - py) < 2 then 1 else 0
theorem pzValue_eq (k : Nat) (hk : 100 < k) (kd : Int) {a b px py : Int} (ha : 0 ≤ a ∧ a ≤ 24) (hb : 0 ≤ b ∧ b ≤ 12) (hx : 0 ≤ px ∧ px ≤ 12) (hy : 0 ≤ py ∧ py ≤ 12) : spec_pzValue.f k kd a b px py = some (tells kd a b px py) := by
  unfold spec_pzValue.f tells
  have q1 := mul_bd 24 24 (x := a) (y := py) (by omega) (by omega)
  have q2 := mul_bd 24 24 (x := b) (y := px) (by omega) (by omega)
  have q3 := mul_bd 24 24 (x := a - px) (y := a - px) (by omega) (by omega)
  have q4 := mul_bd 24 24 (x := b - py) (y := b - py) (by omega) (by omega)
  have et : spec_pgTurn.f 0 0 a b px py = some (a * py - b * px) := by
    have := pgTurn_eq 24 (by omega) (ax := 0) (ay := 0) (bx := a) (by_ := b) (cx := px) (cy := py) (by omega) (by omega) (by omega) (by omega) (by omega) (by omega)
    rw [this]
    unfold tri
    simp
  rw [et, pgStep_eq 24 (by omega) k (by omega) (by omega) (by omega) (by omega) (by omega)]
  simp only [Option.bind_some, spec_bdFar.f]
  rw [l1Abs_eq (by omega), w64 (x := a - px) (by omega) (by omega), w64 (x := b - py) (by omega) (by omega), w64 (x := (a - px) * (a - px)) (by omega) (by omega), w64 (x := (b - py) * (b - py)) (by omega) (by omega), w64 (x := _ + (b - py) * (b - py)) (by omega) (by omega), w64 (x := px + py) (by omega) (by omega)]
  simp only [Option.bind_some]
  have eg : ((Int.gcd (a - px) (b - py) : Nat) : Int) < 2 ↔ Int.gcd (a - px) (b - py) < 2 := by omega
  by_cases g : Int.gcd (a - px) (b - py) < 2
  · simp only [if_pos g, if_pos (eg.2 g)]
    repeat' split
    all_goals first | rfl | done
  · simp only [if_neg g, if_neg (fun h => g (eg.1 h))]
    repeat' split
    all_goals first | rfl | done

theorem pzOn_eq (s x y : Int) : spec_pzOn.f s x y = some (decide ((0 ≤ x ∧ x ≤ s) ∧ (0 ≤ y ∧ y ≤ s))) := by
  unfold spec_pzOn.f
  simp only [in_eq, Option.bind_some]
  by_cases c : 0 ≤ x ∧ x ≤ s
  · simp [c]
  · simp [c]
theorem isHidden_eq {s : Int} (x y : Int) (hs : 1 ≤ s ∧ s ≤ 12) : impl_isHidden.f s x y = some (decide ((0 ≤ x ∧ x ≤ s) ∧ (0 ≤ y ∧ y ≤ s))) := by
  unfold impl_isHidden.f impl_isSide.f impl_isOnBoard.f
  rw [w64 (x := s + 1) (by omega) (by omega), w64 (x := s + 1 - 1) (by omega) (by omega), show s + 1 - 1 = s by omega]
  simp only [within_eq, Option.bind_some]
  by_cases c : 0 ≤ x ∧ x ≤ s
  · simp [c, hs]
  · simp [c, hs]

theorem rdClueNat (l : List S39) (i : Nat) (h : i < l.length) : rd_T39 l (i : Int) = l[i] := by
  unfold rd_T39
  simp [List.getD_eq_getElem?_getD, List.getElem?_eq_getElem h]
theorem eqClueS_loop (l : List S39) (hl : l.length ≤ 1048576) (d : Nat) : ∀ (k i : Nat), i + d = l.length → d < k → laws_eqClueS.l0 k l l (i : Int) = some true := by
  induction d with
  | zero =>
    intro k i hi hk
    obtain ⟨k, rfl⟩ : ∃ m, k = m + 1 := ⟨k - 1, by omega⟩
    simp only [laws_eqClueS.l0]
    rw [if_neg (by omega)]
  | succ d ih =>
    intro k i hi hk
    obtain ⟨k, rfl⟩ : ∃ m, k = m + 1 := ⟨k - 1, by omega⟩
    simp only [laws_eqClueS.l0]
    rw [if_pos (by omega), if_pos (by omega), if_pos (by omega)]
    have e : ∀ a b c d : Int, laws_eqClue.f a b c d a b c d = some true := fun a b c d => by simp [laws_eqClue.f]
    rw [e, w64 (by omega) (by omega)]
    exact ih k (i + 1) (by omega) (by omega)
theorem eqPuzzle_self (k : Nat) (s : Int) (l : List S39) (hl : l.length ≤ 1048576) (hk : l.length < k) : laws_eqPuzzle.f k s l s l = some true := by
  unfold laws_eqPuzzle.f laws_eqClueS.f
  rw [if_pos rfl, if_pos rfl]
  have := eqClueS_loop l hl l.length k 0 (by omega) hk
  rw [show ((0 : Nat) : Int) = 0 from rfl] at this
  rw [this, Option.bind_some, if_pos rfl]

/-- What marking makes of n clues, from number a on. -/
def markedClues (a n : Nat) : List S39 := (List.range' 0 n).map fun (i : Nat) => (⟨((a + 4 * i : Nat) : Int), ((a + 4 * i : Nat) : Int) + 1, ((a + 4 * i : Nat) : Int) + 1 + 1, ((a + 4 * i : Nat) : Int) + 1 + 1 + 1⟩ : S39)
theorem markedClues_length (a n : Nat) : (markedClues a n).length = n := by simp [markedClues]
theorem rdClue_set (x : List S39) (i : Nat) (h : i < x.length) (v : S39) : rd_T39 (x.set i v) (i : Int) = v := by
  rw [rdClueNat _ i (by simpa using h), List.getElem_set_self]
theorem markClueS_loop (a : Nat) (ha : a ≤ 1000) (n : Nat) (hn : n ≤ 1048576) (d : Nat) : ∀ (k i : Nat) (x : List S39), i + d = n → d < k → x.length = n → x.take i = (markedClues a n).take i →
    laws_markClueS.l0 k x ((a + 4 * i : Nat) : Int) (i : Int) = some (((a + 4 * n : Nat) : Int), markedClues a n) := by
  induction d with
  | zero =>
    intro k i x hi hk hx hp
    obtain ⟨k, rfl⟩ : ∃ m, k = m + 1 := ⟨k - 1, by omega⟩
    simp only [laws_markClueS.l0]
    rw [if_neg (by omega)]
    have hl := markedClues_length a n
    rw [List.take_of_length_le (by omega), List.take_of_length_le (by omega)] at hp
    rw [hp, show i = n by omega]
  | succ d ih =>
    intro k i x hi hk hx hp
    obtain ⟨k, rfl⟩ : ∃ m, k = m + 1 := ⟨k - 1, by omega⟩
    have hlt : i < x.length := by omega
    have hl := markedClues_length a n
    have r1 : ∀ v, rd_T39 (x.set i v) (i : Int) = v := fun v => rdClue_set x i hlt v
    simp only [laws_markClueS.l0]
    rw [if_pos (by omega), if_pos (by omega)]
    simp only [Option.bind_some, Int.toNat_natCast, List.set_set, r1]
    rw [w64 (x := ((a + 4 * i : Nat) : Int) + 1) (by omega) (by omega), w64 (x := ((a + 4 * i : Nat) : Int) + 1 + 1) (by omega) (by omega), w64 (x := ((a + 4 * i : Nat) : Int) + 1 + 1 + 1) (by omega) (by omega), w64 (x := ((a + 4 * i : Nat) : Int) + 1 + 1 + 1 + 1) (by omega) (by omega), w64 (x := (i : Int) + 1) (by omega) (by omega),
      show ((a + 4 * i : Nat) : Int) + 1 + 1 + 1 + 1 = ((a + 4 * (i + 1) : Nat) : Int) by omega, show (i : Int) + 1 = ((i + 1 : Nat) : Int) by omega]
    refine ih k (i + 1) _ (by omega) (by omega) (by simpa using hx) ?_
    have hm : (markedClues a n)[i]? = some ⟨((a + 4 * i : Nat) : Int), ((a + 4 * i : Nat) : Int) + 1, ((a + 4 * i : Nat) : Int) + 1 + 1, ((a + 4 * i : Nat) : Int) + 1 + 1 + 1⟩ := by
      unfold markedClues
      rw [List.getElem?_map, List.getElem?_range' (by omega)]
      simp
    rw [List.take_set, List.take_add_one, List.take_add_one, hp, hm, List.getElem?_eq_getElem hlt]
    simp only [Option.toList_some]
    rw [List.set_append_right _ _ (by simp; omega)]
    simp [hl, Nat.min_eq_left (show i ≤ n by omega)]
theorem markPuzzle_eq (k : Nat) (s : Int) (l : List S39) (hl : l.length ≤ 1048576) (hk : l.length < k) : laws_markPuzzle.f k s l 1 = some (((1 + 4 * l.length : Nat) : Int), markedClues 1 l.length) := by
  unfold laws_markPuzzle.f laws_markClueS.f
  have := markClueS_loop 1 (by omega) l.length hl l.length k 0 l (by omega) hk rfl (by simp)
  rw [show ((1 + 4 * 0 : Nat) : Int) = 1 from rfl, show ((0 : Nat) : Int) = 0 from rfl] at this
  rw [this, Option.bind_some]
theorem heldClueS_loop (a : Nat) (ha : a ≤ 1000) (n : Nat) (hn : n ≤ 1048576) (d : Nat) : ∀ (k i : Nat), i + d = n → d < k →
    laws_heldClueS.l0 k (markedClues a n) ((a + 4 * i : Nat) : Int) (i : Int) = some ((a + 4 * n : Nat) : Int) := by
  induction d with
  | zero =>
    intro k i hi hk
    obtain ⟨k, rfl⟩ : ∃ m, k = m + 1 := ⟨k - 1, by omega⟩
    have hl := markedClues_length a n
    simp only [laws_heldClueS.l0]
    rw [if_neg (by omega), show i = n by omega]
  | succ d ih =>
    intro k i hi hk
    obtain ⟨k, rfl⟩ : ∃ m, k = m + 1 := ⟨k - 1, by omega⟩
    have hl := markedClues_length a n
    have hm : (markedClues a n)[i]'(by omega) = ⟨((a + 4 * i : Nat) : Int), ((a + 4 * i : Nat) : Int) + 1, ((a + 4 * i : Nat) : Int) + 1 + 1, ((a + 4 * i : Nat) : Int) + 1 + 1 + 1⟩ := by
      unfold markedClues
      simp
    simp only [laws_heldClueS.l0]
    rw [if_pos (by omega), if_pos (by omega), rdClueNat _ i (by omega), hm, w64 (x := ((a + 4 * i : Nat) : Int) + 1) (by omega) (by omega), w64 (x := ((a + 4 * i : Nat) : Int) + 1 + 1) (by omega) (by omega), w64 (x := ((a + 4 * i : Nat) : Int) + 1 + 1 + 1) (by omega) (by omega), w64 (x := ((a + 4 * i : Nat) : Int) + 1 + 1 + 1 + 1) (by omega) (by omega), w64 (x := (i : Int) + 1) (by omega) (by omega)]
    rw [if_pos rfl, if_pos rfl, if_pos rfl, if_pos rfl,
      show ((a + 4 * i : Nat) : Int) + 1 + 1 + 1 + 1 = ((a + 4 * (i + 1) : Nat) : Int) by omega, show (i : Int) + 1 = ((i + 1 : Nat) : Int) by omega]
    exact ih k (i + 1) (by omega) (by omega)
theorem heldPuzzle_eq (k : Nat) (s : Int) (n : Nat) (hn : n ≤ 1048576) (hk : n < k) : laws_heldPuzzle.f k s (markedClues 1 n) 1 = some ((1 + 4 * n : Nat) : Int) := by
  unfold laws_heldPuzzle.f laws_heldClueS.f
  have := heldClueS_loop 1 (by omega) n hn n k 0 (by omega) hk
  rw [show ((1 + 4 * 0 : Nat) : Int) = 1 from rfl, show ((0 : Nat) : Int) = 0 from rfl] at this
  rw [this, Option.bind_some, if_neg (by omega)]

/-- The clue of a kind that a peg fits. -/
def clueOf (kd a b px py : Int) : S39 := if kd < 3 then ⟨kd, tells kd a b px py, 0, 0⟩ else ⟨kd, a, b, tells kd a b px py⟩
theorem pzOf_eq (k : Nat) (hk : 100 < k) (kd : Int) {a b px py : Int} (ha : 0 ≤ a ∧ a ≤ 24) (hb : 0 ≤ b ∧ b ≤ 12) (hx : 0 ≤ px ∧ px ≤ 12) (hy : 0 ≤ py ∧ py ≤ 12) : spec_pzOf.f k kd a b px py = some ((clueOf kd a b px py).f0, (clueOf kd a b px py).f1, (clueOf kd a b px py).f2, (clueOf kd a b px py).f3) := by
  unfold spec_pzOf.f clueOf
  rw [pzValue_eq k hk kd ha hb hx hy, Option.bind_some, Option.bind_some]
  by_cases c : kd < 3
  · rw [if_pos c, if_pos c]
  · rw [if_neg c, if_neg c]
theorem asHas_eq (k : Nat) (hk : 100 < k) {kd : Int} (hkd : 0 ≤ kd ∧ kd ≤ 5) {a b px py : Int} (ha : 0 ≤ a ∧ a ≤ 24) (hb : 0 ≤ b ∧ b ≤ 12) (hx : 0 ≤ px ∧ px ≤ 12) (hy : 0 ≤ py ∧ py ≤ 12) (h0 : kd < 3 → b = 0) : impl_asHas.f k kd a b 0 px py = some ((clueOf kd a b px py).f0, (clueOf kd a b px py).f1, (clueOf kd a b px py).f2, (clueOf kd a b px py).f3) := by
  unfold impl_asHas.f clueOf tells
  have q1 := mul_bd 24 24 (x := a) (y := py) (by omega) (by omega)
  have q2 := mul_bd 24 24 (x := b) (y := px) (by omega) (by omega)
  have q3 := mul_bd 24 24 (x := px - a) (y := px - a) (by omega) (by omega)
  have q4 := mul_bd 24 24 (x := py - b) (y := py - b) (by omega) (by omega)
  have e1 : (px - a) * (px - a) = (a - px) * (a - px) := by rw [show px - a = -(a - px) by omega, Int.neg_mul_neg]
  have e2 : (py - b) * (py - b) = (b - py) * (b - py) := by rw [show py - b = -(b - py) by omega, Int.neg_mul_neg]
  have eg : Int.gcd (px - a) (py - b) = Int.gcd (a - px) (b - py) := by
    rw [show px - a = -(a - px) by omega, show py - b = -(b - py) by omega, Int.neg_gcd, Int.gcd_neg]
  rw [steps_eq 24 (by omega) k (by omega) (by omega) (by omega) (by omega) (by omega), eg]
  simp only [impl_cross.f, impl_Peg_less.f, impl_Peg_square.f, Option.bind_some]
  rw [w64 (x := px - a) (by omega) (by omega), w64 (x := py - b) (by omega) (by omega), w64 (x := (px - a) * (px - a)) (by omega) (by omega), w64 (x := (py - b) * (py - b)) (by omega) (by omega), w64 (x := _ + (py - b) * (py - b)) (by omega) (by omega), w64 (x := px + py) (by omega) (by omega), w64 (x := a * py) (by omega) (by omega), w64 (x := b * px) (by omega) (by omega), w64 (x := a * py - b * px) (by omega) (by omega), size_eq (by omega), e1, e2]
  have hk6 : kd = 0 ∨ kd = 1 ∨ kd = 2 ∨ kd = 3 ∨ kd = 4 ∨ kd = 5 := by omega
  have eg2 : ((Int.gcd (a - px) (b - py) : Nat) : Int) < 2 ↔ Int.gcd (a - px) (b - py) < 2 := by omega
  by_cases g : Int.gcd (a - px) (b - py) < 2
  · have g2 := eg2.2 g
    rcases hk6 with rfl | rfl | rfl | rfl | rfl | rfl <;> simp [g, g2] <;> exact h0 (by decide)
  · have g2 : ¬ ((Int.gcd (a - px) (b - py) : Nat) : Int) < 2 := fun h => g (eg2.1 h)
    rcases hk6 with rfl | rfl | rfl | rfl | rfl | rfl <;> simp [g, g2] <;> exact h0 (by decide)

def nextZ (z : Int) : Int := Int.tmod (197 * z + 3079) 10009
theorem nextZ_bd {z : Int} (h : 0 ≤ z ∧ z ≤ 10008) : 0 ≤ nextZ z ∧ nextZ z ≤ 10008 := by
  unfold nextZ
  have h1 := Int.tmod_nonneg (b := 10009) (a := 197 * z + 3079) (by omega)
  have h2 := Int.tmod_lt_of_pos (197 * z + 3079) (b := 10009) (by omega)
  omega
theorem mod_bd {z m : Int} (h : 0 ≤ z) (hm : 0 < m) : 0 ≤ Int.tmod z m ∧ Int.tmod z m < m := ⟨Int.tmod_nonneg _ h, Int.tmod_lt_of_pos _ hm⟩
theorem pzNext_eq {z : Int} (h : 0 ≤ z ∧ z ≤ 10008) : spec_pzNext.f z = some (nextZ z) := by
  unfold spec_pzNext.f nextZ
  rw [w64 (x := 197 * z) (by omega) (by omega), w64 (by omega) (by omega)]
theorem next_eq {z : Int} (m : Int) (h : 0 ≤ z ∧ z ≤ 10008) (hm : m ≠ 0) : impl_MakePuzzle_1.f m z = some (Int.tmod (nextZ z) m, nextZ z) := by
  unfold impl_MakePuzzle_1.f nextZ
  rw [if_neg hm, w64 (x := z * 197) (by omega) (by omega), w64 (by omega) (by omega), Int.mul_comm z 197]
/-- One clue more, and the number that comes behind it. -/
def mkStep (s px py z : Int) : S39 × Int := if Int.tmod (nextZ z) 6 > 2 then (clueOf (Int.tmod (nextZ z) 6) (Int.tmod (nextZ (nextZ z)) (s + 1)) (Int.tmod (nextZ (nextZ (nextZ z))) (s + 1)) px py, nextZ (nextZ (nextZ z))) else (clueOf (Int.tmod (nextZ z) 6) 0 0 px py, nextZ z)
def mkList (s px py : Int) : Nat → Int → List S39
  | 0, _ => []
  | d + 1, z => (mkStep s px py z).1 :: mkList s px py d (mkStep s px py z).2
theorem mkList_length (s px py : Int) (d : Nat) : ∀ z, (mkList s px py d z).length = d := by
  induction d with
  | zero => intro z; rfl
  | succ d ih => intro z; unfold mkList; rw [List.length_cons, ih]

theorem mkS_l0 {s px py : Int} (hs : 1 ≤ s ∧ s ≤ 12) (hx : 0 ≤ px ∧ px ≤ 12) (hy : 0 ≤ py ∧ py ≤ 12) (d : Nat) : ∀ (k : Nat) (z : Int) (acc : List S39), 0 ≤ z ∧ z ≤ 10008 → d + 150 ≤ k → acc.length + d ≤ 100 →
    spec_MakePuzzle.l0 k s (d : Int) z px py s acc = some (s, acc ++ mkList s px py d z, true) := by
  induction d with
  | zero =>
    intro k z acc hz hk ha
    obtain ⟨k, rfl⟩ : ∃ m, k = m + 1 := ⟨k - 1, by omega⟩
    simp only [spec_MakePuzzle.l0]
    rw [if_neg (by omega), mkList, List.append_nil]
  | succ d ih =>
    intro k z acc hz hk ha
    obtain ⟨k, rfl⟩ : ∃ m, k = m + 1 := ⟨k - 1, by omega⟩
    have b1 := nextZ_bd hz
    have b2 := nextZ_bd b1
    have b3 := nextZ_bd b2
    have c1 := mod_bd (z := nextZ z) (m := 6) b1.1 (by omega)
    have c2 := mod_bd (z := nextZ (nextZ z)) (m := s + 1) b2.1 (by omega)
    have c3 := mod_bd (z := nextZ (nextZ (nextZ z))) (m := s + 1) b3.1 (by omega)
    simp only [spec_MakePuzzle.l0]
    rw [if_pos (by omega), pzNext_eq hz, Option.bind_some, w64 (x := s + 1) (by omega) (by omega), w64 (x := ((d + 1 : Nat) : Int) - 1) (by omega) (by omega), show ((d + 1 : Nat) : Int) - 1 = (d : Int) by omega]
    unfold mkList mkStep
    by_cases c : Int.tmod (nextZ z) 6 > 2
    · rw [if_pos c, if_pos c, pzNext_eq b1, Option.bind_some, if_neg (by omega), pzNext_eq b2, Option.bind_some, pzOf_eq k (by omega) _ (by omega) (by omega) hx hy, Option.bind_some, if_pos (by omega)]
      refine (ih k _ (acc ++ [clueOf (Int.tmod (nextZ z) 6) (Int.tmod (nextZ (nextZ z)) (s + 1)) (Int.tmod (nextZ (nextZ (nextZ z))) (s + 1)) px py]) b3 (by omega) (by simp; omega)).trans ?_
      rw [List.append_assoc]
      rfl
    · rw [if_neg c, if_neg c, pzOf_eq k (by omega) _ (by omega) (by omega) hx hy, Option.bind_some, if_pos (by omega)]
      refine (ih k _ (acc ++ [clueOf (Int.tmod (nextZ z) 6) 0 0 px py]) b1 (by omega) (by simp; omega)).trans ?_
      rw [List.append_assoc]
      rfl
/-- What a puzzle is made of. -/
def mkOk (s px py n z : Int) : Prop := (1 ≤ s ∧ s ≤ 12) ∧ ((0 ≤ px ∧ px ≤ s) ∧ (0 ≤ py ∧ py ≤ s)) ∧ (0 ≤ n ∧ n ≤ 6) ∧ (0 ≤ z ∧ z ≤ 9999)
instance (s px py n z : Int) : Decidable (mkOk s px py n z) := by unfold mkOk; infer_instance
def mkR (s px py n z : Int) : Int × List S39 × Bool := if mkOk s px py n z then (s, mkList s px py n.toNat z, true) else (0, [], false)
theorem mkR_length (s px py n z : Int) : (mkR s px py n z).2.1.length ≤ 6 := by
  unfold mkR
  split
  · rename_i h
    obtain ⟨_, _, h, _⟩ := h
    show (mkList s px py n.toNat z).length ≤ 6
    rw [mkList_length]
    omega
  · simp
theorem mkS_eq (k : Nat) (hk : 200 ≤ k) (s px py n z : Int) : spec_MakePuzzle.f k s px py n z = some (mkR s px py n z) := by
  obtain ⟨k, rfl⟩ : ∃ m, k = m + 1 := ⟨k - 1, by omega⟩
  unfold spec_MakePuzzle.f mkR
  simp only [spec_pzSide.f, in_eq, pzOn_eq, Option.bind_some, spec_MakePuzzle.j0, decide_eq_true_eq]
  by_cases h1 : 1 ≤ s ∧ s ≤ 12
  · rw [if_pos h1]
    by_cases h2 : (0 ≤ px ∧ px ≤ s) ∧ (0 ≤ py ∧ py ≤ s)
    · rw [if_pos h2]
      by_cases h3 : 0 ≤ n ∧ n ≤ 6
      · rw [if_pos h3]
        by_cases h4 : 0 ≤ z ∧ z ≤ 9999
        · rw [if_neg (by simp [h4]), if_pos ⟨h1, h2, h3, h4⟩]
          have := mkS_l0 h1 (by omega) (by omega) n.toNat k z [] (px := px) (py := py) (by omega) (by omega) (by simp; omega)
          rw [show ((n.toNat : Nat) : Int) = n by omega, List.nil_append] at this
          exact this
        · rw [if_pos (by simp; omega), if_neg (fun h => h4 h.2.2.2)]
      · rw [if_neg h3, if_pos (by trivial), if_neg (fun h => h3 h.2.2.1)]
    · rw [if_neg h2, if_pos (by trivial), if_neg (fun h => h2 h.2.1)]
  · rw [if_neg h1, if_pos (by trivial), if_neg (fun h => h1 h.1)]

theorem mkI_l0 {s px py : Int} (hs : 1 ≤ s ∧ s ≤ 12) (hx : 0 ≤ px ∧ px ≤ 12) (hy : 0 ≤ py ∧ py ≤ 12) (n : Nat) (hn : n ≤ 100) (d : Nat) : ∀ (k i : Nat) (z : Int) (acc : List S39), i + d = n → 0 ≤ z ∧ z ≤ 10008 → d + 150 ≤ k → acc.length + d ≤ 100 →
    impl_MakePuzzle.l0 k s (n : Int) (i : Int) px py s acc z = some (s, acc ++ mkList s px py d z, true) := by
  induction d with
  | zero =>
    intro k i z acc hi hz hk ha
    obtain ⟨k, rfl⟩ : ∃ m, k = m + 1 := ⟨k - 1, by omega⟩
    simp only [impl_MakePuzzle.l0]
    rw [if_neg (by omega), mkList, List.append_nil]
  | succ d ih =>
    intro k i z acc hi hz hk ha
    obtain ⟨k, rfl⟩ : ∃ m, k = m + 1 := ⟨k - 1, by omega⟩
    have b1 := nextZ_bd hz
    have b2 := nextZ_bd b1
    have b3 := nextZ_bd b2
    have c1 := mod_bd (z := nextZ z) (m := 6) b1.1 (by omega)
    have c2 := mod_bd (z := nextZ (nextZ z)) (m := s + 1) b2.1 (by omega)
    have c3 := mod_bd (z := nextZ (nextZ (nextZ z))) (m := s + 1) b3.1 (by omega)
    simp only [impl_MakePuzzle.l0]
    rw [if_pos (by omega), next_eq 6 hz (by omega), Option.bind_some, w64 (x := s + 1) (by omega) (by omega), w64 (x := (i : Int) + 1) (by omega) (by omega), show (i : Int) + 1 = ((i + 1 : Nat) : Int) by omega]
    unfold mkList mkStep
    by_cases c : Int.tmod (nextZ z) 6 > 2
    · rw [if_pos (show Int.tmod (nextZ z) 6 ≥ 3 by omega), if_pos c, next_eq (s + 1) b1 (by omega), Option.bind_some, next_eq (s + 1) b2 (by omega), Option.bind_some, asHas_eq k (by omega) (by omega) (by omega) (by omega) hx hy (fun h => by omega), Option.bind_some, if_pos (by omega)]
      refine (ih k (i + 1) _ (acc ++ [clueOf (Int.tmod (nextZ z) 6) (Int.tmod (nextZ (nextZ z)) (s + 1)) (Int.tmod (nextZ (nextZ (nextZ z))) (s + 1)) px py]) (by omega) b3 (by omega) (by simp; omega)).trans ?_
      rw [List.append_assoc]
      rfl
    · rw [if_neg (show ¬ Int.tmod (nextZ z) 6 ≥ 3 by omega), if_neg c, asHas_eq k (by omega) (by omega) (by omega) (by omega) hx hy (fun _ => rfl), Option.bind_some, if_pos (by omega)]
      refine (ih k (i + 1) _ (acc ++ [clueOf (Int.tmod (nextZ z) 6) 0 0 px py]) (by omega) b1 (by omega) (by simp; omega)).trans ?_
      rw [List.append_assoc]
      rfl
theorem mkI_eq (k : Nat) (hk : 200 ≤ k) (s px py n z : Int) : impl_MakePuzzle.f k s px py n z = some (mkR s px py n z) := by
  obtain ⟨k, rfl⟩ : ∃ m, k = m + 1 := ⟨k - 1, by omega⟩
  unfold impl_MakePuzzle.f mkR
  by_cases h1 : 1 ≤ s ∧ s ≤ 12
  · simp only [isHidden_eq px py h1, within_eq, Option.bind_some, impl_MakePuzzle.j0, decide_eq_true_eq]
    by_cases h2 : (0 ≤ px ∧ px ≤ s) ∧ (0 ≤ py ∧ py ≤ s)
    · rw [if_pos h2]
      by_cases h3 : 0 ≤ n ∧ n ≤ 6
      · rw [if_pos h3]
        by_cases h4 : 0 ≤ z ∧ z ≤ 9999
        · rw [if_neg (by simp [h4]), if_pos ⟨h1, h2, h3, h4⟩]
          have := mkI_l0 h1 (by omega) (by omega) n.toNat (by omega) n.toNat k 0 z [] (px := px) (py := py) (by omega) (by omega) (by omega) (by simp; omega)
          rw [show ((n.toNat : Nat) : Int) = n by omega, List.nil_append] at this
          exact this
        · rw [if_pos (by simp; omega), if_neg (fun h => h4 h.2.2.2)]
      · rw [if_neg h3, if_pos (by trivial), if_neg (fun h => h3 h.2.2.1)]
    · rw [if_neg h2, if_pos (by trivial), if_neg (fun h => h2 h.2.1)]
  · have e : impl_isHidden.f s px py = some false := by
      unfold impl_isHidden.f impl_isSide.f
      rw [within_eq, Option.bind_some, Option.bind_some, if_neg (by rw [decide_eq_true_eq]; exact h1)]
    rw [e, Option.bind_some, if_neg (by decide)]
    simp only [impl_MakePuzzle.j0]
    rw [if_pos (by trivial), if_neg (fun h => h1 h.1)]

/-- The one pure statement of the law FnExactMakePuzzle. -/
def FnExactMakePuzzle.Pure : Prop :=
  ∀ (a0 : Int) (a1_0 : Int) (a1_1 : Int) (a2 : Int) (a3 : Int), I64 a0 → I64 a1_0 → I64 a1_1 → I64 a2 → I64 a3 → ∃ k, laws_FnExactMakePuzzle.f k a0 a1_0 a1_1 a2 a3 = some true

theorem FnExactMakePuzzle : FnExactMakePuzzle.Pure := by
  intro s px py n z _ _ _ _ _
  obtain ⟨k, hk⟩ : ∃ k : Nat, 1000 ≤ k := ⟨1000, Nat.le_refl _⟩
  refine ⟨k + 2, ?_⟩
  have ht : ∀ a b : Int, laws_toPeg.f a b = some (a, b) := fun _ _ => rfl
  unfold laws_FnExactMakePuzzle.f
  have hR : ∃ R : Int × List S39 × Bool, R.2.1.length ≤ 6 ∧ ∀ k, 1000 ≤ k → spec_MakePuzzle.f k s px py n z = some R ∧ impl_MakePuzzle.f k s px py n z = some R :=
    ⟨mkR s px py n z, mkR_length s px py n z, fun k hk => ⟨mkS_eq k (by omega) s px py n z, mkI_eq k (by omega) s px py n z⟩⟩
  obtain ⟨⟨r0, r1, g⟩, hr, hall⟩ := hR
  have hr1 : r1.length ≤ 6 := hr
  have hE : ∀ k, 1000 ≤ k → laws_eqPuzzle.f k r0 r1 r0 r1 = some true := fun k hk => eqPuzzle_self k r0 r1 (by omega) (by omega)
  have hM : ∀ k, 1000 ≤ k → laws_markPuzzle.f k r0 r1 1 = some (((1 + 4 * r1.length : Nat) : Int), markedClues 1 r1.length) := fun k hk => markPuzzle_eq k r0 r1 (by omega) (by omega)
  have hH : ∀ k, 1000 ≤ k → laws_heldPuzzle.f k r0 (markedClues 1 r1.length) 1 = some ((1 + 4 * r1.length : Nat) : Int) := fun k hk => heldPuzzle_eq k r0 r1.length (by omega) (by omega)
  simp only [ht, Option.bind_some]
  simp only [(hall (k + 2) (by omega)).1, (hall (k + 2) (by omega)).2, Option.bind_some]
  rw [hE (k + 2) (by omega), Option.bind_some, if_pos rfl]
  simp only [laws_FnExactMakePuzzle.j0]
  rw [if_neg (by simp), hM (k + 1) (by omega), Option.bind_some]
  simp only []
  rw [hH (k + 1) (by omega), Option.bind_some, if_neg (by omega), if_pos rfl]
  simp only [ht, Option.bind_some]
  simp only [(hall (k + 1) (by omega)).2, Option.bind_some]
  rw [hE (k + 1) (by omega), Option.bind_some, if_pos rfl]
  simp only [laws_FnExactMakePuzzle.j1]
  rw [if_neg (by simp), hH k (by omega), Option.bind_some, if_neg (by omega), if_pos rfl]

end Go.Proofs.Ytlhiificglpgkaa.Pure
