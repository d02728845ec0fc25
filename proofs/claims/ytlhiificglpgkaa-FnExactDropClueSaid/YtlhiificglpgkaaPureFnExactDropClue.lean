/- The program's DropClue returns what the reference's returns, for all arguments. No condition. -/
import Derived.Test.YtlhiificglpgkaaMWx0
import Derived.Test.YtlhiificglpgkaaMWx1
import Derived.Test.YtlhiificglpgkaaMWx2
import Derived.Test.YtlhiificglpgkaaMWx3
import Derived.Test.YtlhiificglpgkaaMWx4
import Derived.Test.YtlhiificglpgkaaMWx5
import Derived.Test.YtlhiificglpgkaaMWx6
import Derived.Test.YtlhiificglpgkaaMWx7
import Derived.Test.YtlhiificglpgkaaMWx8
import Derived.Test.YtlhiificglpgkaaMWx9
import Derived.Test.YtlhiificglpgkaaMWx10
import Derived.Test.YtlhiificglpgkaaMWx11
import Derived.Test.YtlhiificglpgkaaMWx12
import Derived.Test.YtlhiificglpgkaaV
namespace Go.Proofs.Ytlhiificglpgkaa.Pure
open Go.RowKit Go.Proofs.YtlhiificglpgkaaV Go.Proofs.Ytlhiificglpgkaa.MW Go.Proofs.YtlhiificglpgkaaW.PrintWords Go.Proofs.YtlhiificglpgkaaW.PrintLast Go.Proofs.YtlhiificglpgkaaW.PrintMore

theorem in_eq (a lo hi : Int) : spec_l1In.f a lo hi = some (decide (lo ≤ a ∧ a ≤ hi)) := by
  unfold spec_l1In.f
  by_cases h : lo ≤ a
  · rw [if_pos h]; simp [h]
  · rw [if_neg h]; simp [h]

theorem within_eq (a lo hi : Int) : impl_within.f a lo hi = some (decide (lo ≤ a ∧ a ≤ hi)) := by
  unfold impl_within.f
  by_cases h : lo ≤ a
  · rw [if_pos h]; simp [h]
  · rw [if_neg h]; simp [h]

theorem w64 {x : Int} (h0 : -9223372036854775808 ≤ x) (h1 : x ≤ 9223372036854775807) : wrap64 x = x := by
  unfold wrap64
  omega

theorem mul_bd {x y : Int} (A B : Nat) (hx : -(A : Int) ≤ x ∧ x ≤ A) (hy : -(B : Int) ≤ y ∧ y ≤ B) : -((A * B : Nat) : Int) ≤ x * y ∧ x * y ≤ ((A * B : Nat) : Int) := by
  have h1 : x.natAbs ≤ A := by omega
  have h2 : y.natAbs ≤ B := by omega
  have h3 := Nat.mul_le_mul h1 h2
  rw [← Int.natAbs_mul] at h3
  omega

/-- A clue of a board. -/
def clueP (s kd a b c : Int) : Prop := ((kd = 0 ∨ kd = 1) ∧ (0 ≤ a ∧ a ≤ s) ∧ b = 0 ∧ c = 0) ∨ (kd = 2 ∧ (0 ≤ a ∧ a ≤ 2 * s) ∧ b = 0 ∧ c = 0) ∨ ((kd = 3 ∨ kd = 4 ∨ kd = 5) ∧ (0 ≤ a ∧ a ≤ s) ∧ (0 ≤ b ∧ b ≤ s) ∧ (0 ≤ c ∧ c ≤ (if kd = 3 then s * s else if kd = 4 then 2 * s * s else 1)))
instance (s kd a b c : Int) : Decidable (clueP s kd a b c) := by unfold clueP; infer_instance

theorem clue_sq {s : Int} (hs : 1 ≤ s ∧ s ≤ 12) : wrap64 (2 * s) = 2 * s ∧ wrap64 (s * s) = s * s ∧ wrap64 (2 * s * s) = 2 * s * s := by
  have hq := mul_bd 12 12 (x := s) (y := s) (by omega) (by omega)
  refine ⟨w64 (by omega) (by omega), w64 (by omega) (by omega), ?_⟩
  rw [Int.mul_assoc]
  exact w64 (by omega) (by omega)

theorem clue_cases {s : Int} (kd a b : Int) (hs : 1 ≤ s ∧ s ≤ 12) :
    (kd = 0 ∨ kd = 1 ∨ kd = 2 ∨ kd = 3 ∨ kd = 4 ∨ kd = 5 ∨ (kd ≠ 0 ∧ kd ≠ 1 ∧ kd ≠ 2 ∧ kd ≠ 3 ∧ kd ≠ 4 ∧ kd ≠ 5)) ∧
    ((0 ≤ a ∧ a ≤ s ∧ a ≤ 2 * s ∧ ¬ s < a) ∨ (¬ (0 ≤ a ∧ a ≤ s) ∧ 0 ≤ a ∧ a ≤ 2 * s ∧ s < a ∧ ¬ a ≤ s) ∨ (¬ (0 ≤ a ∧ a ≤ s) ∧ ¬ (0 ≤ a ∧ a ≤ 2 * s))) ∧
    (b = 0 ∨ (b ≠ 0 ∧ 0 ≤ b ∧ b ≤ s) ∨ (b ≠ 0 ∧ ¬ (0 ≤ b ∧ b ≤ s))) := by
  omega

theorem pzClue_eq (k : Nat) {s : Int} (kd a b c : Int) (hs : 1 ≤ s ∧ s ≤ 12) : spec_pzClue.f (k + 3) s kd a b c = some (decide (clueP s kd a b c)) := by
  obtain ⟨e1, e2, e3⟩ := clue_sq hs
  obtain ⟨hk, ha, hb⟩ := clue_cases kd a b hs
  have s0 : 0 ≤ s := by omega
  unfold spec_pzClue.f clueP
  simp only [spec_pzClue.j0, in_eq, Option.bind_some, e1, e2, e3]
  rcases hk with rfl | rfl | rfl | rfl | rfl | rfl | ⟨k0, k1, k2, k3, k4, k5⟩ <;>
  rcases hb with rfl | ⟨b0, b1, b2⟩ | ⟨b0, b1⟩ <;>
  rcases ha with ⟨a1, a2, a3, a4⟩ | ⟨a0, a1, a2, a3, a4⟩ | ⟨a0, a1⟩ <;>
  simp [*] <;> by_cases hc : c = 0 <;> simp [hc]

theorem isClue_eq (k : Nat) {s : Int} (kd a b c : Int) (hs : 1 ≤ s ∧ s ≤ 12) : impl_IsClue.f (k + 3) s kd a b c = some (decide (clueP s kd a b c)) := by
  obtain ⟨e1, e2, e3⟩ := clue_sq hs
  obtain ⟨hk, ha, hb⟩ := clue_cases kd a b hs
  have s0 : 0 ≤ s := by omega
  unfold impl_IsClue.f impl_isSide.f clueP
  simp only [impl_IsClue.j0, impl_IsClue.j1, within_eq, Option.bind_some, e1, e2, e3, hs]
  rcases hk with rfl | rfl | rfl | rfl | rfl | rfl | ⟨k0, k1, k2, k3, k4, k5⟩ <;>
  rcases hb with rfl | ⟨b0, b1, b2⟩ | ⟨b0, b1⟩ <;>
  rcases ha with ⟨a1, a2, a3, a4⟩ | ⟨a0, a1, a2, a3, a4⟩ | ⟨a0, a1⟩ <;>
  simp [*] <;> by_cases hc : c = 0 <;> simp [hc]

def convClue (p : S34) : S39 := ⟨p.f0, p.f1, p.f2, p.f3⟩

theorem toClueS_loop (l : List S34) (hl : l.length ≤ 1048576) (d : Nat) : ∀ (k i : Nat) (x : List S39), i + d = l.length → d < k → x.length = l.length → x.take i = (l.take i).map convClue →
    laws_toClueS.l0 k l x (i : Int) = some (l.map convClue) := by
  induction d with
  | zero =>
    intro k i x hi hk hx hp
    obtain ⟨k, rfl⟩ : ∃ m, k = m + 1 := ⟨k - 1, by omega⟩
    simp only [laws_toClueS.l0]
    rw [if_neg (by omega)]
    rw [List.take_of_length_le (by omega), List.take_of_length_le (by omega)] at hp
    rw [hp]
  | succ d ih =>
    intro k i x hi hk hx hp
    obtain ⟨k, rfl⟩ : ∃ m, k = m + 1 := ⟨k - 1, by omega⟩
    have hlt : i < l.length := by omega
    have hr : rd_T34 l (i : Int) = l[i] := by
      unfold rd_T34
      simp [List.getD_eq_getElem?_getD, List.getElem?_eq_getElem hlt]
    simp only [laws_toClueS.l0, laws_toClue.f]
    rw [if_pos (by omega), if_pos (by omega), hr]
    simp only [Option.bind_some]
    rw [if_pos (by omega), w64 (by omega) (by omega)]
    refine ih k (i + 1) _ (by omega) (by omega) (by simpa using hx) ?_
    rw [Int.toNat_natCast, List.take_set, List.take_add_one, List.take_add_one, hp, List.getElem?_eq_getElem (by omega), List.getElem?_eq_getElem hlt]
    simp only [Option.toList_some, List.map_append, List.map_cons, List.map_nil]
    rw [List.set_append_right _ _ (by simp; omega)]
    simp [Nat.min_eq_left (Nat.le_of_lt hlt), convClue]
theorem toPuzzle_eq (k : Nat) (s : Int) (l : List S34) (hl : l.length ≤ 1048576) (hk : l.length < k) : laws_toPuzzle.f k s l = some (s, l.map convClue) := by
  unfold laws_toPuzzle.f laws_toClueS.f
  have h := toClueS_loop l hl l.length k 0 (List.replicate ((l.length : Int) : Int).toNat z39) (by omega) hk (by simp) (by simp)
  rw [show ((0 : Nat) : Int) = 0 from rfl] at h
  rw [if_pos (by omega), if_pos (by omega), h]
  rfl

theorem rdClueNat (l : List S39) (i : Nat) (h : i < l.length) : rd_T39 l (i : Int) = l[i] := by
  unfold rd_T39
  simp [List.getD_eq_getElem?_getD, List.getElem?_eq_getElem h]
theorem eqClueS_loop (l : List S39) (hl : l.length ≤ 1048576) (d : Nat) : ∀ (k i : Nat), i + d = l.length → d < k → laws_eqClueS.l0 k l l (i : Int) = some true := by
  induction d with
  | zero =>
    intro k i hi hk
    obtain ⟨k, rfl⟩ : ∃ m, k = m + 1 := ⟨k - 1, by omega⟩
    simp only [laws_eqClueS.l0]
    rw [if_neg (by omega)]
  | succ d ih =>
    intro k i hi hk
    obtain ⟨k, rfl⟩ : ∃ m, k = m + 1 := ⟨k - 1, by omega⟩
    simp only [laws_eqClueS.l0]
    rw [if_pos (by omega), if_pos (by omega), if_pos (by omega)]
    have e : ∀ a b c d : Int, laws_eqClue.f a b c d a b c d = some true := fun a b c d => by simp [laws_eqClue.f]
    rw [e, w64 (by omega) (by omega)]
    exact ih k (i + 1) (by omega) (by omega)
theorem eqPuzzle_self (k : Nat) (s : Int) (l : List S39) (hl : l.length ≤ 1048576) (hk : l.length < k) : laws_eqPuzzle.f k s l s l = some true := by
  unfold laws_eqPuzzle.f laws_eqClueS.f
  rw [if_pos rfl, if_pos rfl]
  have := eqClueS_loop l hl l.length k 0 (by omega) hk
  rw [show ((0 : Nat) : Int) = 0 from rfl] at this
  rw [this, Option.bind_some, if_pos rfl]

theorem szPuzzle_eq (s : Int) (l : List S34) (hl : l.length ≤ maxLen) : laws_szPuzzle.f s l 1048576 = some (if 1048576 < l.length then -1 else 1048576 - (l.length : Int)) := by
  unfold maxLen at hl
  unfold laws_szPuzzle.f laws_szClueS.f
  rw [w64 (by omega) (by omega)]
  by_cases c : 1048576 < l.length
  · rw [if_pos (by omega), if_pos c, Option.bind_some, if_pos (by decide)]
  · rw [if_neg (by omega), if_neg c, Option.bind_some, if_neg (by omega)]

/-- A puzzle. -/
def clueB (s : Int) (c : S39) : Bool := decide (clueP s c.f0 c.f1 c.f2 c.f3)
def puzB (s : Int) (l : List S39) : Bool := decide (1 ≤ s ∧ s ≤ 12) && (decide (l.length ≤ 6) && l.all (clueB s))

theorem pzGood_loop (s : Int) (hs : 1 ≤ s ∧ s ≤ 12) (l l' : List S39) (hl : l.length ≤ 6) (d : Nat) : ∀ (k i : Nat), i + d = l.length → d + 3 < k →
    spec_pzGood.l0 k l (l.length : Int) (i : Int) s l' = some ((l.drop i).all (clueB s)) := by
  induction d with
  | zero =>
    intro k i hi hk
    obtain ⟨k, rfl⟩ : ∃ m, k = m + 1 := ⟨k - 1, by omega⟩
    simp only [spec_pzGood.l0]
    rw [if_neg (by omega), List.drop_of_length_le (by omega)]
    rfl
  | succ d ih =>
    intro k i hi hk
    obtain ⟨k, rfl⟩ : ∃ m, k = m + 4 := ⟨k - 4, by omega⟩
    have hlt : i < l.length := by omega
    simp only [spec_pzGood.l0]
    rw [if_pos (by omega), if_pos (by omega), if_pos (by omega), rdClueNat l i hlt, pzClue_eq k _ _ _ _ hs, Option.bind_some, List.drop_eq_getElem_cons hlt, List.all_cons]
    have hb : clueB s l[i] = decide (clueP s l[i].f0 l[i].f1 l[i].f2 l[i].f3) := rfl
    rw [← hb]
    by_cases c : clueB s l[i] = true
    · rw [if_pos c, c, Bool.true_and, w64 (by omega) (by omega)]
      exact ih (k + 3) (i + 1) (by omega) (by omega)
    · rw [if_neg c, Bool.eq_false_iff.mpr c]
      rfl
theorem pzSide_eq (s : Int) : spec_pzSide.f s = some (decide (1 ≤ s ∧ s ≤ 12)) := by
  unfold spec_pzSide.f
  rw [in_eq, Option.bind_some]
theorem pzGood_eq (k : Nat) (hk : 100 ≤ k) (s : Int) (l : List S39) : spec_pzGood.f k s l = some (puzB s l) := by
  obtain ⟨k, rfl⟩ : ∃ m, k = m + 1 := ⟨k - 1, by omega⟩
  unfold spec_pzGood.f puzB
  rw [pzSide_eq, Option.bind_some]
  simp only [spec_pzGood.j0]
  by_cases c : 1 ≤ s ∧ s ≤ 12
  · rw [if_pos (by rw [decide_eq_true_eq]; exact c), decide_eq_true c, Bool.true_and]
    by_cases c2 : l.length ≤ 6
    · rw [if_neg (by rw [decide_eq_true_eq]; omega), decide_eq_true c2, Bool.true_and]
      have := pzGood_loop s c l l c2 l.length k 0 (by omega) (by omega)
      simpa using this
    · rw [if_pos (by rw [decide_eq_true_eq]; omega), decide_eq_false c2]
      rfl
  · rw [if_neg (by rw [decide_eq_true_eq]; exact c), if_pos trivial, decide_eq_false c]
    rfl

theorem indexClue_loop (s : Int) (hs : 1 ≤ s ∧ s ≤ 12) (l l' : List S39) (hl : l.length ≤ 6) (d : Nat) : ∀ (k i : Nat), i + d = l.length → d + 3 < k →
    ∃ r, slices_IndexFunc_impl_Clue_impl_Clue.l0 k l (l.length : Int) (i : Int) s l' = some r ∧ decide (r ≥ 0) = !((l.drop i).all (clueB s)) := by
  induction d with
  | zero =>
    intro k i hi hk
    obtain ⟨k, rfl⟩ : ∃ m, k = m + 1 := ⟨k - 1, by omega⟩
    refine ⟨-1, ?_, ?_⟩
    · simp only [slices_IndexFunc_impl_Clue_impl_Clue.l0]
      rw [if_neg (by omega)]
    · rw [List.drop_of_length_le (by omega)]
      rfl
  | succ d ih =>
    intro k i hi hk
    obtain ⟨k, rfl⟩ : ∃ m, k = m + 4 := ⟨k - 4, by omega⟩
    have hlt : i < l.length := by omega
    simp only [slices_IndexFunc_impl_Clue_impl_Clue.l0, impl_IsPuzzle_1.f]
    rw [if_pos (by omega), if_pos (by omega), if_pos (by omega), rdClueNat l i hlt, isClue_eq k _ _ _ _ hs, Option.bind_some, Option.bind_some, List.drop_eq_getElem_cons hlt, List.all_cons]
    have hb : clueB s l[i] = decide (clueP s l[i].f0 l[i].f1 l[i].f2 l[i].f3) := rfl
    rw [← hb]
    by_cases c : clueB s l[i] = true
    · obtain ⟨r, h1, h2⟩ := ih (k + 3) (i + 1) (by omega) (by omega)
      refine ⟨r, ?_, ?_⟩
      · rw [c, if_neg (by decide), w64 (by omega) (by omega)]
        exact h1
      · rw [h2, c, Bool.true_and]
    · refine ⟨(i : Int), ?_, ?_⟩
      · rw [Bool.eq_false_iff.mpr c, if_pos (by decide)]
      · rw [Bool.eq_false_iff.mpr c, Bool.false_and, decide_eq_true_eq.mpr (by omega)]
        rfl
theorem isPuzzle_eq (k : Nat) (hk : 100 ≤ k) (s : Int) (l : List S39) : impl_IsPuzzle.f k s l = some (puzB s l) := by
  unfold impl_IsPuzzle.f puzB impl_isSide.f slices_ContainsFunc_impl_Clue_impl_Clue.f slices_IndexFunc_impl_Clue_impl_Clue.f
  rw [within_eq, Option.bind_some, Option.bind_some]
  by_cases c : 1 ≤ s ∧ s ≤ 12
  · rw [if_pos (by rw [decide_eq_true_eq]; exact c), decide_eq_true c, Bool.true_and]
    by_cases c2 : l.length ≤ 6
    · obtain ⟨r, h1, h2⟩ := indexClue_loop s c l l c2 l.length k 0 (by omega) (by omega)
      rw [show ((0 : Nat) : Int) = 0 from rfl] at h1
      rw [if_pos (by omega), h1, Option.bind_some, Option.bind_some, h2, decide_eq_true c2, Bool.true_and, Bool.not_not, List.drop_zero]
    · rw [if_neg (by omega), decide_eq_false c2]
      rfl
  · rw [if_neg (by rw [decide_eq_true_eq]; exact c), decide_eq_false c]
    rfl

/-- What marking makes of n clues, from number a on. -/
def markedClues (a n : Nat) : List S39 := (List.range' 0 n).map fun (i : Nat) => (⟨((a + 4 * i : Nat) : Int), ((a + 4 * i : Nat) : Int) + 1, ((a + 4 * i : Nat) : Int) + 1 + 1, ((a + 4 * i : Nat) : Int) + 1 + 1 + 1⟩ : S39)
theorem markedClues_length (a n : Nat) : (markedClues a n).length = n := by simp [markedClues]
theorem rdClue_set (x : List S39) (i : Nat) (h : i < x.length) (v : S39) : rd_T39 (x.set i v) (i : Int) = v := by
  rw [rdClueNat _ i (by simpa using h), List.getElem_set_self]
theorem markClueS_loop (a : Nat) (ha : a ≤ 1000) (n : Nat) (hn : n ≤ 1048576) (d : Nat) : ∀ (k i : Nat) (x : List S39), i + d = n → d < k → x.length = n → x.take i = (markedClues a n).take i →
    laws_markClueS.l0 k x ((a + 4 * i : Nat) : Int) (i : Int) = some (((a + 4 * n : Nat) : Int), markedClues a n) := by
  induction d with
  | zero =>
    intro k i x hi hk hx hp
    obtain ⟨k, rfl⟩ : ∃ m, k = m + 1 := ⟨k - 1, by omega⟩
    simp only [laws_markClueS.l0]
    rw [if_neg (by omega)]
    have hl := markedClues_length a n
    rw [List.take_of_length_le (by omega), List.take_of_length_le (by omega)] at hp
    rw [hp, show i = n by omega]
  | succ d ih =>
    intro k i x hi hk hx hp
    obtain ⟨k, rfl⟩ : ∃ m, k = m + 1 := ⟨k - 1, by omega⟩
    have hlt : i < x.length := by omega
    have hl := markedClues_length a n
    have r1 : ∀ v, rd_T39 (x.set i v) (i : Int) = v := fun v => rdClue_set x i hlt v
    simp only [laws_markClueS.l0]
    rw [if_pos (by omega), if_pos (by omega)]
    simp only [Option.bind_some, Int.toNat_natCast, List.set_set, r1]
    rw [w64 (x := ((a + 4 * i : Nat) : Int) + 1) (by omega) (by omega), w64 (x := ((a + 4 * i : Nat) : Int) + 1 + 1) (by omega) (by omega), w64 (x := ((a + 4 * i : Nat) : Int) + 1 + 1 + 1) (by omega) (by omega), w64 (x := ((a + 4 * i : Nat) : Int) + 1 + 1 + 1 + 1) (by omega) (by omega), w64 (x := (i : Int) + 1) (by omega) (by omega),
      show ((a + 4 * i : Nat) : Int) + 1 + 1 + 1 + 1 = ((a + 4 * (i + 1) : Nat) : Int) by omega, show (i : Int) + 1 = ((i + 1 : Nat) : Int) by omega]
    refine ih k (i + 1) _ (by omega) (by omega) (by simpa using hx) ?_
    have hm : (markedClues a n)[i]? = some ⟨((a + 4 * i : Nat) : Int), ((a + 4 * i : Nat) : Int) + 1, ((a + 4 * i : Nat) : Int) + 1 + 1, ((a + 4 * i : Nat) : Int) + 1 + 1 + 1⟩ := by
      unfold markedClues
      rw [List.getElem?_map, List.getElem?_range' (by omega)]
      simp
    rw [List.take_set, List.take_add_one, List.take_add_one, hp, hm, List.getElem?_eq_getElem hlt]
    simp only [Option.toList_some]
    rw [List.set_append_right _ _ (by simp; omega)]
    simp [hl, Nat.min_eq_left (show i ≤ n by omega)]
theorem markPuzzle_eq (k : Nat) (s : Int) (l : List S39) (hl : l.length ≤ 1048576) (hk : l.length < k) : laws_markPuzzle.f k s l 1 = some (((1 + 4 * l.length : Nat) : Int), markedClues 1 l.length) := by
  unfold laws_markPuzzle.f laws_markClueS.f
  have := markClueS_loop 1 (by omega) l.length hl l.length k 0 l (by omega) hk rfl (by simp)
  rw [show ((1 + 4 * 0 : Nat) : Int) = 1 from rfl, show ((0 : Nat) : Int) = 0 from rfl] at this
  rw [this, Option.bind_some]
theorem heldClueS_loop (a : Nat) (ha : a ≤ 1000) (n : Nat) (hn : n ≤ 1048576) (d : Nat) : ∀ (k i : Nat), i + d = n → d < k →
    laws_heldClueS.l0 k (markedClues a n) ((a + 4 * i : Nat) : Int) (i : Int) = some ((a + 4 * n : Nat) : Int) := by
  induction d with
  | zero =>
    intro k i hi hk
    obtain ⟨k, rfl⟩ : ∃ m, k = m + 1 := ⟨k - 1, by omega⟩
    have hl := markedClues_length a n
    simp only [laws_heldClueS.l0]
    rw [if_neg (by omega), show i = n by omega]
  | succ d ih =>
    intro k i hi hk
    obtain ⟨k, rfl⟩ : ∃ m, k = m + 1 := ⟨k - 1, by omega⟩
    have hl := markedClues_length a n
    have hm : (markedClues a n)[i]'(by omega) = ⟨((a + 4 * i : Nat) : Int), ((a + 4 * i : Nat) : Int) + 1, ((a + 4 * i : Nat) : Int) + 1 + 1, ((a + 4 * i : Nat) : Int) + 1 + 1 + 1⟩ := by
      unfold markedClues
      simp
    simp only [laws_heldClueS.l0]
    rw [if_pos (by omega), if_pos (by omega), rdClueNat _ i (by omega), hm, w64 (x := ((a + 4 * i : Nat) : Int) + 1) (by omega) (by omega), w64 (x := ((a + 4 * i : Nat) : Int) + 1 + 1) (by omega) (by omega), w64 (x := ((a + 4 * i : Nat) : Int) + 1 + 1 + 1) (by omega) (by omega), w64 (x := ((a + 4 * i : Nat) : Int) + 1 + 1 + 1 + 1) (by omega) (by omega), w64 (x := (i : Int) + 1) (by omega) (by omega)]
    rw [if_pos rfl, if_pos rfl, if_pos rfl, if_pos rfl,
      show ((a + 4 * i : Nat) : Int) + 1 + 1 + 1 + 1 = ((a + 4 * (i + 1) : Nat) : Int) by omega, show (i : Int) + 1 = ((i + 1 : Nat) : Int) by omega]
    exact ih k (i + 1) (by omega) (by omega)
theorem heldPuzzle_eq (k : Nat) (s : Int) (n : Nat) (hn : n ≤ 1048576) (hk : n < k) : laws_heldPuzzle.f k s (markedClues 1 n) 1 = some ((1 + 4 * n : Nat) : Int) := by
  unfold laws_heldPuzzle.f laws_heldClueS.f
  have := heldClueS_loop 1 (by omega) n hn n k 0 (by omega) hk
  rw [show ((1 + 4 * 0 : Nat) : Int) = 1 from rfl, show ((0 : Nat) : Int) = 0 from rfl] at this
  rw [this, Option.bind_some, if_neg (by omega)]

theorem cloneClue_eq (l : List S39) (hl : l.length ≤ 2000000) : slices_Clone_impl_Clue_impl_Clue.f l = some l := by
  unfold slices_Clone_impl_Clue_impl_Clue.f
  simp only [Option.bind_some, List.nil_append, List.length_nil]
  rw [if_pos (by omega)]

/-- A puzzle without a clue. -/
def dropR (s : Int) (l : List S39) (a : Int) : Int × List S39 × Bool := if puzB s l = true ∧ (0 ≤ a ∧ a ≤ (l.length : Int) - 1) then (s, l.eraseIdx a.toNat, true) else (0, [], false)
theorem puzB_length {s : Int} {l : List S39} (h : puzB s l = true) : l.length ≤ 6 := by
  unfold puzB at h
  rw [Bool.and_eq_true, Bool.and_eq_true, decide_eq_true_eq, decide_eq_true_eq] at h
  exact h.2.1
theorem dropR_length (s : Int) (l : List S39) (a : Int) : (dropR s l a).2.1.length ≤ 7 := by
  unfold dropR
  split
  · rename_i h
    have := puzB_length h.1
    have h2 := List.length_eraseIdx_le l a.toNat
    simp only
    omega
  · simp
theorem dropS_eq (k : Nat) (hk : 100 ≤ k) (s : Int) (l : List S39) (a : Int) : spec_DropClue.f k s l a = some (dropR s l a) := by
  unfold spec_DropClue.f dropR
  rw [pzGood_eq k hk, Option.bind_some]
  by_cases p : puzB s l = true
  · have hl := puzB_length p
    rw [if_pos p, w64 (by omega) (by omega), in_eq, Option.bind_some]
    by_cases q : 0 ≤ a ∧ a ≤ (l.length : Int) - 1
    · rw [if_pos (by rw [decide_eq_true_eq]; exact q), if_pos ⟨p, q⟩]
      unfold spec_pzWithout.f
      simp only [Option.bind_some, List.nil_append, List.length_nil]
      rw [if_pos q.1, if_pos (by omega), if_pos (by simp; omega), w64 (by omega) (by omega), if_pos (by omega), if_pos (by omega), if_pos (by simp; omega), Option.bind_some, List.eraseIdx_eq_take_drop_succ, show (a + 1).toNat = a.toNat + 1 by omega]
    · rw [if_neg (by rw [decide_eq_true_eq]; exact q), if_neg (fun h => q h.2)]
  · rw [if_neg p, if_neg (fun h => p h.1)]
theorem dropI_eq (k : Nat) (hk : 100 ≤ k) (s : Int) (l : List S39) (a : Int) : impl_DropClue.f k s l a = some (dropR s l a) := by
  unfold impl_DropClue.f dropR
  rw [isPuzzle_eq k hk, Option.bind_some]
  by_cases p : puzB s l = true
  · have hl := puzB_length p
    rw [if_pos p, w64 (by omega) (by omega), within_eq, Option.bind_some]
    by_cases q : 0 ≤ a ∧ a ≤ (l.length : Int) - 1
    · rw [if_pos (by rw [decide_eq_true_eq]; exact q), if_pos ⟨p, q⟩]
      unfold impl_dropped.f slices_Delete_impl_Clue_impl_Clue.f
      rw [cloneClue_eq l (by omega), Option.bind_some, if_pos q.1, if_pos (by omega), w64 (by omega) (by omega), if_pos rfl, if_pos (by omega), Option.bind_some, Option.bind_some]
    · rw [if_neg (by rw [decide_eq_true_eq]; exact q), if_neg (fun h => q h.2)]
  · rw [if_neg p, if_neg (fun h => p h.1)]

/-- The one pure statement of the law FnExactDropClue. -/
def FnExactDropClue.Pure : Prop :=
  ∀ (a0_0 : Int) (l0_1 : List (S34)) (a1 : Int), I64 a0_0 → l0_1.length ≤ maxLen → (∀ x ∈ l0_1, I64 x.f0 ∧ I64 x.f1 ∧ I64 x.f2 ∧ I64 x.f3) → I64 a1 → ∃ k, laws_FnExactDropClue.f k a0_0 l0_1 a1 = some true

theorem FnExactDropClue : FnExactDropClue.Pure := by
  intro s l a _ hl _ _
  obtain ⟨k, hk⟩ : ∃ k : Nat, 1048600 ≤ k := ⟨1048600, Nat.le_refl _⟩
  refine ⟨k + 3, ?_⟩
  unfold laws_FnExactDropClue.f
  rw [szPuzzle_eq s l hl, Option.bind_some]
  by_cases c : 1048576 < l.length
  · rw [if_pos c, if_pos (by decide)]
  · rw [if_neg c, if_neg (by omega)]
    have hT : ∀ k, 1048600 ≤ k → laws_toPuzzle.f k s l = some (s, l.map convClue) := fun k hk => toPuzzle_eq k s l (by omega) (by omega)
    have hll : (l.map convClue).length ≤ 1048576 := by simp; omega
    have hR : ∃ R : Int × List S39 × Bool, R.2.1.length ≤ 7 ∧ ∀ k, 1048600 ≤ k → spec_DropClue.f k s (l.map convClue) a = some R ∧ impl_DropClue.f k s (l.map convClue) a = some R :=
      ⟨dropR s (l.map convClue) a, dropR_length _ _ _, fun k hk => ⟨dropS_eq k (by omega) s (l.map convClue) a, dropI_eq k (by omega) s (l.map convClue) a⟩⟩
    generalize l.map convClue = m at *
    obtain ⟨⟨r0, r1, g⟩, hr, hall⟩ := hR
    have hr1 : r1.length ≤ 7 := hr
    have hE : ∀ k, 1048600 ≤ k → laws_eqPuzzle.f k r0 r1 r0 r1 = some true := fun k hk => eqPuzzle_self k r0 r1 (by omega) (by omega)
    have hX : ∀ k, 1048600 ≤ k → laws_eqPuzzle.f k s m s m = some true := fun k hk => eqPuzzle_self k s m (by omega) (by omega)
    have hM : ∀ k, 1048600 ≤ k → laws_markPuzzle.f k r0 r1 1 = some (((1 + 4 * r1.length : Nat) : Int), markedClues 1 r1.length) := fun k hk => markPuzzle_eq k r0 r1 (by omega) (by omega)
    have hN : ∀ k, 1048600 ≤ k → laws_markPuzzle.f k s m 1 = some (((1 + 4 * m.length : Nat) : Int), markedClues 1 m.length) := fun k hk => markPuzzle_eq k s m (by omega) (by omega)
    have hH : ∀ k, 1048600 ≤ k → laws_heldPuzzle.f k r0 (markedClues 1 r1.length) 1 = some ((1 + 4 * r1.length : Nat) : Int) := fun k hk => heldPuzzle_eq k r0 r1.length (by omega) (by omega)
    simp only [hT (k + 3) (by omega), Option.bind_some]
    simp only [(hall (k + 3) (by omega)).1, (hall (k + 3) (by omega)).2, Option.bind_some]
    rw [hE (k + 3) (by omega), Option.bind_some, if_pos rfl]
    simp only [laws_FnExactDropClue.j0]
    rw [if_neg (by simp), hT (k + 2) (by omega), Option.bind_some]
    simp only []
    rw [hX (k + 2) (by omega), Option.bind_some, if_pos rfl, hN (k + 2) (by omega), Option.bind_some, if_neg (by omega), hE (k + 2) (by omega), Option.bind_some, if_pos rfl]
    simp only [laws_FnExactDropClue.j1]
    rw [if_neg (by simp), hM (k + 1) (by omega), Option.bind_some]
    simp only []
    rw [hH (k + 1) (by omega), Option.bind_some, if_neg (by omega), if_pos rfl]
    simp only [hT (k + 1) (by omega), Option.bind_some]
    simp only [(hall (k + 1) (by omega)).2, Option.bind_some]
    rw [hE (k + 1) (by omega), Option.bind_some, if_pos rfl]
    simp only [laws_FnExactDropClue.j2]
    rw [if_neg (by simp), hH k (by omega), Option.bind_some, if_neg (by omega), if_pos rfl]

end Go.Proofs.Ytlhiificglpgkaa.Pure
