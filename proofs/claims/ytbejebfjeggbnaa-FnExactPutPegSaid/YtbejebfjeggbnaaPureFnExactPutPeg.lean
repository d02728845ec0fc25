/- The program's PutPeg returns what the reference's returns, for all arguments. No condition. -/
import Derived.Test.YtbejebfjeggbnaaMPx0
import Derived.Test.YtbejebfjeggbnaaMPx1
import Derived.Test.YtbejebfjeggbnaaMPx2
import Derived.Test.YtbejebfjeggbnaaMPx3
import Derived.Test.YtbejebfjeggbnaaMPx4
import Derived.Test.YtbejebfjeggbnaaMPx5
import Derived.Test.YtbejebfjeggbnaaMPx6
import Derived.Test.YtbejebfjeggbnaaV
namespace Go.Proofs.Ytbejebfjeggbnaa.Pure
open Go.RowKit Go.Proofs.YtbejebfjeggbnaaV Go.Proofs.Ytbejebfjeggbnaa.MP Go.Proofs.YtbejebfjeggbnaaW.PrintWords Go.Proofs.YtbejebfjeggbnaaW.PrintLast Go.Proofs.YtbejebfjeggbnaaW.PrintMore

theorem in_eq (a lo hi : Int) : spec_l1In.f a lo hi = some (decide (lo ≤ a ∧ a ≤ hi)) := by
  unfold spec_l1In.f
  by_cases h : lo ≤ a
  · rw [if_pos h]; simp [h]
  · rw [if_neg h]; simp [h]

theorem within_eq (a lo hi : Int) : impl_within.f a lo hi = some (decide (lo ≤ a ∧ a ≤ hi)) := by
  unfold impl_within.f
  by_cases h : lo ≤ a
  · rw [if_pos h]; simp [h]
  · rw [if_neg h]; simp [h]

theorem w64 {x : Int} (h0 : -9223372036854775808 ≤ x) (h1 : x ≤ 9223372036854775807) : wrap64 x = x := by
  unfold wrap64
  omega

theorem rdNat (l : List Int) (i : Nat) (h : i < l.length) : rd l (i : Int) = l[i] := by
  unfold rd
  simp [List.getD_eq_getElem?_getD, List.getElem?_eq_getElem h]

theorem toIntS_loop (l : List Int) (hl : l.length ≤ 1048576) (d : Nat) : ∀ (k i : Nat) (x : List Int), i + d = l.length → d < k → x.length = l.length → x.take i = l.take i →
    laws_toIntS.l0 k l x (i : Int) = some l := by
  induction d with
  | zero =>
    intro k i x hi hk hx hp
    obtain ⟨k, rfl⟩ : ∃ m, k = m + 1 := ⟨k - 1, by omega⟩
    simp only [laws_toIntS.l0]
    rw [if_neg (by omega)]
    rw [List.take_of_length_le (by omega), List.take_of_length_le (by omega)] at hp
    rw [hp]
  | succ d ih =>
    intro k i x hi hk hx hp
    obtain ⟨k, rfl⟩ : ∃ m, k = m + 1 := ⟨k - 1, by omega⟩
    have hlt : i < l.length := by omega
    simp only [laws_toIntS.l0]
    rw [if_pos (by omega), if_pos (by omega), if_pos (by omega), rdNat l i hlt, w64 (by omega) (by omega)]
    refine ih k (i + 1) _ (by omega) (by omega) (by simpa using hx) ?_
    rw [Int.toNat_natCast, List.take_set, List.take_add_one, List.take_add_one, hp, List.getElem?_eq_getElem (by omega), List.getElem?_eq_getElem hlt]
    simp only [Option.toList_some]
    rw [List.set_append_right _ _ (by simp; omega)]
    simp [Nat.min_eq_left (Nat.le_of_lt hlt)]
theorem toIntS_eq (k : Nat) (l : List Int) (hl : l.length ≤ 1048576) (hk : l.length < k) : laws_toIntS.f k l = some l := by
  unfold laws_toIntS.f
  rw [if_pos (by omega), if_pos (by omega)]
  exact toIntS_loop l hl l.length k 0 _ (by omega) hk (by simp) (by simp)

theorem eqIntS_loop (l : List Int) (hl : l.length ≤ 1048576) (d : Nat) : ∀ (k i : Nat), i + d = l.length → d < k → laws_eqIntS.l0 k l l (i : Int) = some true := by
  induction d with
  | zero =>
    intro k i hi hk
    obtain ⟨k, rfl⟩ : ∃ m, k = m + 1 := ⟨k - 1, by omega⟩
    simp only [laws_eqIntS.l0]
    rw [if_neg (by omega)]
  | succ d ih =>
    intro k i hi hk
    obtain ⟨k, rfl⟩ : ∃ m, k = m + 1 := ⟨k - 1, by omega⟩
    simp only [laws_eqIntS.l0]
    rw [if_pos (by omega), if_pos (by omega), if_pos (by omega), if_pos trivial, w64 (by omega) (by omega)]
    exact ih k (i + 1) (by omega) (by omega)
theorem eqIntS_self (k : Nat) (l : List Int) (hl : l.length ≤ 1048576) (hk : l.length < k) : laws_eqIntS.f k l l = some true := by
  unfold laws_eqIntS.f
  rw [if_pos rfl]
  exact eqIntS_loop l hl l.length k 0 (by omega) hk

def numB (n : Int) : Bool := decide (-6 ≤ n ∧ n ≤ 2)
/-- Numbers that may be around. -/
def numsB (l : List Int) : Bool := decide (3 ≤ l.length ∧ l.length ≤ 9) && l.all numB

theorem l1All_loop (lo hi : Int) (l : List Int) (hl : l.length ≤ 1048576) (d : Nat) : ∀ (k i : Nat), i + d = l.length → d < k →
    spec_l1All.l0 k lo hi l (l.length : Int) (i : Int) = some ((l.drop i).all fun n => decide (lo ≤ n ∧ n ≤ hi)) := by
  induction d with
  | zero =>
    intro k i hi' hk
    obtain ⟨k, rfl⟩ : ∃ m, k = m + 1 := ⟨k - 1, by omega⟩
    simp only [spec_l1All.l0]
    rw [if_neg (by omega), List.drop_of_length_le (by omega)]
    rfl
  | succ d ih =>
    intro k i hi' hk
    obtain ⟨k, rfl⟩ : ∃ m, k = m + 1 := ⟨k - 1, by omega⟩
    have hlt : i < l.length := by omega
    simp only [spec_l1All.l0]
    rw [if_pos (by omega), if_pos (by omega), if_pos (by omega), rdNat l i hlt, in_eq, Option.bind_some, List.drop_eq_getElem_cons hlt, List.all_cons]
    by_cases c : lo ≤ l[i] ∧ l[i] ≤ hi
    · rw [if_pos (by simpa using c), w64 (by omega) (by omega)]
      have := ih k (i + 1) (by omega) (by omega)
      rw [show ((i : Int) + 1) = ((i + 1 : Nat) : Int) by omega, this, decide_eq_true c, Bool.true_and]
    · rw [if_neg (by simpa using c), decide_eq_false c]
      rfl
theorem duNumber_eq (k : Nat) (hk : 20 ≤ k) (l : List Int) : spec_duNumber.f k l = some (numsB l) := by
  unfold spec_duNumber.f numsB
  rw [in_eq, Option.bind_some]
  by_cases c : 3 ≤ l.length ∧ l.length ≤ 9
  · rw [if_pos (by rw [decide_eq_true_eq]; omega)]
    have := l1All_loop (-6) 2 l (by omega) l.length k 0 (by omega) (by omega)
    rw [show ((0 : Nat) : Int) = 0 from rfl] at this
    unfold spec_l1All.f
    rw [this, Option.bind_some, decide_eq_true c]
    rfl
  · rw [if_neg (by rw [decide_eq_true_eq]; omega), decide_eq_false c]
    rfl

theorem indexInt_loop (l : List Int) (hl : l.length ≤ 1048576) (d : Nat) : ∀ (k i : Nat), i + d = l.length → d < k →
    ∃ r, slices_IndexFunc_int_int.l0 k l (l.length : Int) (i : Int) = some r ∧ decide (r ≥ 0) = (l.drop i).any fun n => !numB n := by
  induction d with
  | zero =>
    intro k i hi hk
    obtain ⟨k, rfl⟩ : ∃ m, k = m + 1 := ⟨k - 1, by omega⟩
    refine ⟨-1, ?_, ?_⟩
    · simp only [slices_IndexFunc_int_int.l0]; rw [if_neg (by omega)]
    · rw [List.drop_of_length_le (by omega)]; rfl
  | succ d ih =>
    intro k i hi hk
    obtain ⟨k, rfl⟩ : ∃ m, k = m + 1 := ⟨k - 1, by omega⟩
    have hlt : i < l.length := by omega
    simp only [slices_IndexFunc_int_int.l0]
    rw [if_pos (by omega), if_pos (by omega), if_pos (by omega), rdNat l i hlt]
    unfold impl_areNumbers_1.f
    rw [within_eq, Option.bind_some, Option.bind_some, List.drop_eq_getElem_cons hlt, List.any_cons]
    by_cases c : -6 ≤ l[i] ∧ l[i] ≤ 2
    · obtain ⟨r, h1, h2⟩ := ih k (i + 1) (by omega) (by omega)
      refine ⟨r, ?_, ?_⟩
      · rw [if_neg (by simp [c]), w64 (by omega) (by omega)]
        exact h1
      · rw [h2]; simp [numB, c]
    · exact ⟨(i : Int), by rw [if_pos (by rw [decide_eq_false c]; rfl)], by simp [numB, c]⟩
theorem areNumbers_eq (k : Nat) (hk : 20 ≤ k) (l : List Int) : impl_areNumbers.f k l = some (numsB l) := by
  unfold impl_areNumbers.f numsB
  rw [within_eq, Option.bind_some]
  by_cases c : 3 ≤ l.length ∧ l.length ≤ 9
  · rw [if_pos (by rw [decide_eq_true_eq]; omega)]
    obtain ⟨r, h1, h2⟩ := indexInt_loop l (by omega) l.length k 0 (by omega) (by omega)
    rw [show ((0 : Nat) : Int) = 0 from rfl] at h1
    unfold slices_ContainsFunc_int_int.f slices_IndexFunc_int_int.f
    rw [h1, Option.bind_some, Option.bind_some, h2, decide_eq_true c, List.drop_zero, Bool.true_and, List.all_eq_not_any_not]
  · rw [if_neg (by rw [decide_eq_true_eq]; omega), decide_eq_false c]
    rfl

/-- What marking makes of n numbers, from number a on. -/
def markedInts (a n : Nat) : List Int := (List.range' 0 n).map fun (i : Nat) => ((a + i : Nat) : Int)
theorem markedInts_length (a n : Nat) : (markedInts a n).length = n := by simp [markedInts]
theorem markedInts_get (a n i : Nat) (h : i < n) : (markedInts a n)[i]? = some ((a + i : Nat) : Int) := by
  unfold markedInts
  rw [List.getElem?_map, List.getElem?_range' h]
  simp
theorem take_set_next (y O : List Int) (i : Nat) (v : Int) (hy : i < y.length) (h : y.take i = O.take i) (hv : O[i]? = some v) : (y.set i v).take (i + 1) = O.take (i + 1) := by
  rw [List.take_set, List.take_add_one, List.take_add_one, h, hv, List.getElem?_eq_getElem hy]
  simp only [Option.toList_some]
  have hO : i < O.length := by
    rcases Nat.lt_or_ge i O.length with h | h
    · exact h
    · rw [List.getElem?_eq_none h] at hv
      exact absurd hv (by simp)
  rw [List.set_append_right _ _ (by simp; omega)]
  simp [Nat.min_eq_left (Nat.le_of_lt hO)]
theorem markIntS_loop (a : Nat) (ha : a ≤ 1000) (n : Nat) (hn : n ≤ 1048576) (d : Nat) : ∀ (k i : Nat) (x : List Int), i + d = n → d < k → x.length = n → x.take i = (markedInts a n).take i →
    laws_markIntS.l0 k x ((a + i : Nat) : Int) (i : Int) = some (((a + n : Nat) : Int), markedInts a n) := by
  have hl := markedInts_length a n
  induction d with
  | zero =>
    intro k i x hi hk hx hp
    obtain ⟨k, rfl⟩ : ∃ m, k = m + 1 := ⟨k - 1, by omega⟩
    simp only [laws_markIntS.l0]
    rw [if_neg (by omega)]
    rw [List.take_of_length_le (by omega), List.take_of_length_le (by omega)] at hp
    rw [hp, show i = n by omega]
  | succ d ih =>
    intro k i x hi hk hx hp
    obtain ⟨k, rfl⟩ : ∃ m, k = m + 1 := ⟨k - 1, by omega⟩
    simp only [laws_markIntS.l0]
    rw [if_pos (by omega), if_pos (by omega), Int.toNat_natCast, w64 (x := ((a + i : Nat) : Int) + 1) (by omega) (by omega), w64 (x := (i : Int) + 1) (by omega) (by omega), show ((a + i : Nat) : Int) + 1 = ((a + (i + 1) : Nat) : Int) by omega, show (i : Int) + 1 = ((i + 1 : Nat) : Int) by omega]
    exact ih k (i + 1) _ (by omega) (by omega) (by simpa using hx) (take_set_next x _ i _ (by omega) hp (markedInts_get a n i (by omega)))
theorem markIntS_eq (k : Nat) (l : List Int) (hl : l.length ≤ 1048576) (hk : l.length < k) : laws_markIntS.f k l 1 = some (((1 + l.length : Nat) : Int), markedInts 1 l.length) :=
  markIntS_loop 1 (by omega) l.length hl l.length k 0 l (by omega) hk rfl (by simp)
theorem heldIntS_loop (a : Nat) (ha : a ≤ 1000) (n : Nat) (hn : n ≤ 1048576) (d : Nat) : ∀ (k i : Nat), i + d = n → d < k →
    laws_heldIntS.l0 k (markedInts a n) ((a + i : Nat) : Int) (i : Int) = some ((a + n : Nat) : Int) := by
  have hl := markedInts_length a n
  induction d with
  | zero =>
    intro k i hi hk
    obtain ⟨k, rfl⟩ : ∃ m, k = m + 1 := ⟨k - 1, by omega⟩
    simp only [laws_heldIntS.l0]
    rw [if_neg (by omega), show i = n by omega]
  | succ d ih =>
    intro k i hi hk
    obtain ⟨k, rfl⟩ : ∃ m, k = m + 1 := ⟨k - 1, by omega⟩
    have hm := markedInts_get a n i (by omega)
    rw [List.getElem?_eq_getElem (by omega)] at hm
    simp only [laws_heldIntS.l0]
    rw [if_pos (by omega), if_pos (by omega), rdNat _ i (by omega), Option.some.inj hm, if_pos rfl, w64 (x := ((a + i : Nat) : Int) + 1) (by omega) (by omega), w64 (x := (i : Int) + 1) (by omega) (by omega), show ((a + i : Nat) : Int) + 1 = ((a + (i + 1) : Nat) : Int) by omega, show (i : Int) + 1 = ((i + 1 : Nat) : Int) by omega]
    exact ih k (i + 1) (by omega) (by omega)
theorem heldIntS_eq (k : Nat) (n : Nat) (hn : n ≤ 1048576) (hk : n < k) : laws_heldIntS.f k (markedInts 1 n) 1 = some ((1 + n : Nat) : Int) :=
  heldIntS_loop 1 (by omega) n hn n k 0 (by omega) hk

theorem numsB_length {l : List Int} (h : numsB l = true) : 3 ≤ l.length ∧ l.length ≤ 9 := by
  unfold numsB at h
  rw [Bool.and_eq_true, decide_eq_true_eq] at h
  exact h.1

theorem cloneInt_eq (l : List Int) (hl : l.length ≤ 2000000) : slices_Clone_int_int.f l = some l := by
  unfold slices_Clone_int_int.f
  simp only [Option.bind_some, List.nil_append, List.length_nil]
  rw [if_pos (by omega)]

theorem ownInt_eq (l : List Int) (hl : l.length ≤ 2000000) : spec_l1Own.f l = some l := by
  unfold spec_l1Own.f
  simp only [Option.bind_some, List.nil_append, List.length_nil]
  rw [if_pos (by omega)]

/-- A 1 put in, and the two beside it made greater (as the reference does it, and as the program does it). -/
def putLS (l : List Int) (i : Nat) : List Int :=
  let y := l.take i ++ [1] ++ l.drop i
  let y1 := y.set ((i + l.length) % (l.length + 1)) (wrap64 (rd y (((i + l.length) % (l.length + 1) : Nat) : Int) + 1))
  y1.set ((i + 1) % (l.length + 1)) (wrap64 (rd y1 (((i + 1) % (l.length + 1) : Nat) : Int) + 1))
def putLI (l : List Int) (i : Nat) : List Int :=
  let y1 := l.set ((i + l.length - 1) % l.length) (wrap64 (rd l (((i + l.length - 1) % l.length : Nat) : Int) + 1))
  let y2 := y1.set (i % l.length) (wrap64 (rd y1 ((i % l.length : Nat) : Int) + 1))
  y2.take i ++ [1] ++ y2.drop i
theorem putLI_length (l : List Int) (i : Nat) : (putLI l i).length = l.length + 1 := by
  unfold putLI
  simp
  omega
theorem putL_eq (l : List Int) (i : Nat) (h3 : 3 ≤ l.length) (h8 : l.length ≤ 8) (hi : i ≤ l.length) : putLS l i = putLI l i := by
  have hc : i = 0 ∨ i = 1 ∨ i = 2 ∨ i = 3 ∨ i = 4 ∨ i = 5 ∨ i = 6 ∨ i = 7 ∨ i = 8 := by omega
  match l, h3, h8, hi with
  | [a, b, c], _, _, hi =>
    simp only [List.length_cons, List.length_nil] at hi
    rcases hc with rfl | rfl | rfl | rfl | rfl | rfl | rfl | rfl | rfl <;> first | (simp [putLS, putLI, rd]; done) | omega
  | [a, b, c, d], _, _, hi =>
    simp only [List.length_cons, List.length_nil] at hi
    rcases hc with rfl | rfl | rfl | rfl | rfl | rfl | rfl | rfl | rfl <;> first | (simp [putLS, putLI, rd]; done) | omega
  | [a, b, c, d, e], _, _, hi =>
    simp only [List.length_cons, List.length_nil] at hi
    rcases hc with rfl | rfl | rfl | rfl | rfl | rfl | rfl | rfl | rfl <;> first | (simp [putLS, putLI, rd]; done) | omega
  | [a, b, c, d, e, f], _, _, hi =>
    simp only [List.length_cons, List.length_nil] at hi
    rcases hc with rfl | rfl | rfl | rfl | rfl | rfl | rfl | rfl | rfl <;> first | (simp [putLS, putLI, rd]; done) | omega
  | [a, b, c, d, e, f, g], _, _, hi =>
    simp only [List.length_cons, List.length_nil] at hi
    rcases hc with rfl | rfl | rfl | rfl | rfl | rfl | rfl | rfl | rfl <;> first | (simp [putLS, putLI, rd]; done) | omega
  | [a, b, c, d, e, f, g, h], _, _, hi =>
    simp only [List.length_cons, List.length_nil] at hi
    rcases hc with rfl | rfl | rfl | rfl | rfl | rfl | rfl | rfl | rfl <;> first | (simp [putLS, putLI, rd]; done) | omega

theorem withOne_eq (l : List Int) (i : Nat) (h3 : 3 ≤ l.length) (h9 : l.length ≤ 9) (hi : i ≤ l.length) : impl_withOne.f l (i : Int) = some (putLI l i) := by
  unfold impl_withOne.f slices_Insert_int_int.f
  have m1 : (i + l.length - 1) % l.length < l.length := Nat.mod_lt _ (by omega)
  have m2 : i % l.length < l.length := Nat.mod_lt _ (by omega)
  have e1 : Int.tmod (wrap64 (wrap64 ((i : Int) - 1) + (l.length : Int))) (l.length : Int) = (((i + l.length - 1) % l.length : Nat) : Int) := by
    rw [w64 (x := (i : Int) - 1) (by omega) (by omega), w64 (by omega) (by omega), show (i : Int) - 1 + l.length = ((i + l.length - 1 : Nat) : Int) by omega]
    rfl
  have e2 : Int.tmod (i : Int) (l.length : Int) = ((i % l.length : Nat) : Int) := rfl
  rw [cloneInt_eq l (by omega), Option.bind_some, if_neg (by omega), e1, e2, if_pos (by omega), if_pos (by omega), Option.bind_some, if_pos (by omega), if_pos (by omega), if_pos (show ([1] : List Int).length = 1 from rfl), if_pos (by omega), if_pos (by simp; omega), if_pos (by simp; omega), if_pos (by simp; omega), Option.bind_some]
  simp only [Int.toNat_natCast]
  rfl

/-- Numbers with a 1 put in at a place. -/
def putR (l : List Int) (a : Int) : List Int × Bool := if numsB l = true ∧ (0 ≤ a ∧ a ≤ (l.length : Int)) ∧ numsB (putLI l a.toNat) = true then (putLI l a.toNat, true) else ([], false)
theorem putR_length (l : List Int) (a : Int) : (putR l a).1.length ≤ 9 := by
  unfold putR
  split
  · rename_i h
    exact (numsB_length h.2.2).2
  · simp
theorem putI_eq (k : Nat) (hk : 100 ≤ k) (l : List Int) (a : Int) : impl_PutPeg.f k l a = some (putR l a) := by
  obtain ⟨k, rfl⟩ : ∃ m, k = m + 1 := ⟨k - 1, by omega⟩
  unfold impl_PutPeg.f putR
  rw [areNumbers_eq (k + 1) (by omega), Option.bind_some]
  by_cases p : numsB l = true
  · have hl := numsB_length p
    rw [if_pos p, within_eq, Option.bind_some]
    simp only [impl_PutPeg.j0]
    by_cases c : 0 ≤ a ∧ a ≤ (l.length : Int)
    · obtain ⟨i, rfl⟩ : ∃ i : Nat, a = (i : Int) := ⟨a.toNat, by omega⟩
      rw [decide_eq_true c, if_neg (by decide), withOne_eq l i hl.1 hl.2 (by omega), Option.bind_some, areNumbers_eq k (by omega), Option.bind_some, Int.toNat_natCast]
      by_cases r : numsB (putLI l i) = true
      · rw [if_pos r, if_pos ⟨p, c, r⟩]
      · rw [if_neg r, if_neg (fun h => r h.2.2)]
    · rw [decide_eq_false c, if_pos (by decide), if_neg (fun h => c h.2.1)]
  · rw [if_neg p, if_neg (fun h => p h.1)]
    rfl
theorem putS_eq (k : Nat) (hk : 100 ≤ k) (l : List Int) (a : Int) : spec_PutPeg.f k l a = some (putR l a) := by
  obtain ⟨k, rfl⟩ : ∃ m, k = m + 1 := ⟨k - 1, by omega⟩
  unfold spec_PutPeg.f putR
  rw [duNumber_eq (k + 1) (by omega), Option.bind_some]
  by_cases p : numsB l = true
  · have hl := numsB_length p
    rw [if_pos p, in_eq, Option.bind_some]
    by_cases c : 0 ≤ a ∧ a ≤ (l.length : Int)
    · rw [if_pos (by rw [decide_eq_true_eq]; exact c)]
      simp only [spec_PutPeg.j0]
      obtain ⟨i, rfl⟩ : ∃ i : Nat, a = (i : Int) := ⟨a.toNat, by omega⟩
      by_cases n9 : l.length = 9
      · rw [if_pos (by rw [n9]; rfl), if_neg (fun h => by have := (numsB_length h.2.2).2; rw [putLI_length] at this; omega)]
      · have m1 : (i + l.length) % (l.length + 1) < l.length + 1 := Nat.mod_lt _ (by omega)
        have m2 : (i + 1) % (l.length + 1) < l.length + 1 := Nat.mod_lt _ (by omega)
        have e1 : Int.tmod ((i : Int) + (l.length : Int)) ((l.length : Int) + 1) = (((i + l.length) % (l.length + 1) : Nat) : Int) := rfl
        have e2 : Int.tmod ((i : Int) + 1) ((l.length : Int) + 1) = (((i + 1) % (l.length + 1) : Nat) : Int) := rfl
        have hlen : (l.take i ++ [1] ++ l.drop i).length = l.length + 1 := by simp; omega
        rw [if_neg (by rw [beq_iff_eq]; omega), if_pos (by omega), if_pos (by omega), ownInt_eq _ (by simp; omega), Option.bind_some, if_pos (by simp; omega), Option.bind_some, if_pos (by simp; omega), Option.bind_some, w64 (x := (l.length : Int) + 1) (by omega) (by omega), if_neg (by omega), w64 (x := (i : Int) + (l.length : Int)) (by omega) (by omega), w64 (x := (i : Int) + 1) (by omega) (by omega), e1, e2, Int.toNat_natCast, hlen,
          if_pos (by omega), if_pos (by omega), Option.bind_some, if_pos (by omega), if_pos (by omega), Option.bind_some]
        simp only [Int.toNat_natCast]
        have ht : (((l.take i ++ [1] ++ l.drop i).set ((i + l.length) % (l.length + 1)) (wrap64 (rd (l.take i ++ [1] ++ l.drop i) (((i + l.length) % (l.length + 1) : Nat) : Int) + 1))).set ((i + 1) % (l.length + 1)) (wrap64 (rd ((l.take i ++ [1] ++ l.drop i).set ((i + l.length) % (l.length + 1)) (wrap64 (rd (l.take i ++ [1] ++ l.drop i) (((i + l.length) % (l.length + 1) : Nat) : Int) + 1))) (((i + 1) % (l.length + 1) : Nat) : Int) + 1))) = putLS l i := rfl
        rw [ht, putL_eq l i hl.1 (by omega) (by omega), duNumber_eq k (by omega), Option.bind_some]
        by_cases r : numsB (putLI l i) = true
        · rw [if_pos r, if_pos ⟨p, c, r⟩]
        · rw [if_neg r, if_neg (fun h => r h.2.2)]
    · rw [if_neg (by rw [decide_eq_true_eq]; exact c), if_neg (fun h => c h.2.1)]
      rfl
  · rw [if_neg p, if_neg (fun h => p h.1)]
    rfl

/-- The one pure statement of the law FnExactPutPeg. -/
def FnExactPutPeg.Pure : Prop :=
  ∀ (l0 : List Int) (a1 : Int), l0.length ≤ maxLen → (∀ x ∈ l0, I64 x) → I64 a1 → ∃ k, laws_FnExactPutPeg.f k l0 a1 = some true

theorem FnExactPutPeg : FnExactPutPeg.Pure := by
  intro l a hl _ _
  obtain ⟨k, hk⟩ : ∃ k : Nat, 1048600 ≤ k := ⟨1048600, Nat.le_refl _⟩
  refine ⟨k + 3, ?_⟩
  unfold laws_FnExactPutPeg.f
  by_cases c : 1048576 < l.length
  · rw [if_pos (by omega)]
  · rw [if_neg (by omega)]
    have hT : ∀ k, 1048600 ≤ k → laws_toIntS.f k l = some l := fun k hk => toIntS_eq k l (by omega) (by omega)
    have hR : ∃ R : List Int × Bool, R.1.length ≤ 9 ∧ ∀ k, 1048600 ≤ k → spec_PutPeg.f k l a = some R ∧ impl_PutPeg.f k l a = some R :=
      ⟨putR l a, putR_length _ _, fun k hk => ⟨putS_eq k (by omega) l a, putI_eq k (by omega) l a⟩⟩
    obtain ⟨⟨r, g⟩, hr, hall⟩ := hR
    have hr1 : r.length ≤ 9 := hr
    have hE : ∀ k, 1048600 ≤ k → laws_eqIntS.f k r r = some true := fun k hk => eqIntS_self k r (by omega) (by omega)
    have hX : ∀ k, 1048600 ≤ k → laws_eqIntS.f k l l = some true := fun k hk => eqIntS_self k l (by omega) (by omega)
    have hM : ∀ k, 1048600 ≤ k → laws_markIntS.f k r 1 = some (((1 + r.length : Nat) : Int), markedInts 1 r.length) := fun k hk => markIntS_eq k r (by omega) (by omega)
    have hN : ∀ k, 1048600 ≤ k → laws_markIntS.f k l 1 = some (((1 + l.length : Nat) : Int), markedInts 1 l.length) := fun k hk => markIntS_eq k l (by omega) (by omega)
    have hH : ∀ k, 1048600 ≤ k → laws_heldIntS.f k (markedInts 1 r.length) 1 = some ((1 + r.length : Nat) : Int) := fun k hk => heldIntS_eq k r.length (by omega) (by omega)
    simp only [hT (k + 3) (by omega), Option.bind_some]
    simp only [(hall (k + 3) (by omega)).1, (hall (k + 3) (by omega)).2, Option.bind_some]
    rw [hE (k + 3) (by omega), Option.bind_some, if_pos rfl]
    simp only [laws_FnExactPutPeg.j0]
    rw [if_neg (by simp), hT (k + 2) (by omega), Option.bind_some, hX (k + 2) (by omega), Option.bind_some, if_pos rfl, hN (k + 2) (by omega), Option.bind_some, if_neg (by omega), hE (k + 2) (by omega), Option.bind_some, if_pos rfl]
    simp only [laws_FnExactPutPeg.j1]
    rw [if_neg (by simp), hM (k + 1) (by omega), Option.bind_some]
    simp only []
    rw [hH (k + 1) (by omega), Option.bind_some, if_neg (by omega), if_pos rfl, hT (k + 1) (by omega), Option.bind_some]
    simp only [(hall (k + 1) (by omega)).2, Option.bind_some]
    rw [hE (k + 1) (by omega), Option.bind_some, if_pos rfl]
    simp only [laws_FnExactPutPeg.j2]
    rw [if_neg (by simp), hH k (by omega), Option.bind_some, if_neg (by omega), if_pos rfl]

end Go.Proofs.Ytbejebfjeggbnaa.Pure
