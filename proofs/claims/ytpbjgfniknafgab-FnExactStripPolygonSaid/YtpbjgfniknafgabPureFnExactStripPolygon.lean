/- The program's StripPolygon returns what the reference's returns, for all arguments. No condition. -/
import Derived.Test.YtpbjgfniknafgabMAx0
import Derived.Test.YtpbjgfniknafgabMAx1
import Derived.Test.YtpbjgfniknafgabMAx2
import Derived.Test.YtpbjgfniknafgabMAx3
import Derived.Test.YtpbjgfniknafgabMAx4
import Derived.Test.YtpbjgfniknafgabV
namespace Go.Proofs.Ytpbjgfniknafgab.Pure
open Go.RowKit Go.Proofs.YtpbjgfniknafgabV Go.Proofs.Ytpbjgfniknafgab.MA Go.Proofs.YtpbjgfniknafgabW.PrintWords Go.Proofs.YtpbjgfniknafgabW.PrintLast Go.Proofs.YtpbjgfniknafgabW.PrintMore

theorem in_eq (a lo hi : Int) : spec_l1In.f a lo hi = some (decide (lo ≤ a ∧ a ≤ hi)) := by
  unfold spec_l1In.f
  by_cases h : lo ≤ a
  · rw [if_pos h]; simp [h]
  · rw [if_neg h]; simp [h]

theorem within_eq (a lo hi : Int) : impl_within.f a lo hi = some (decide (lo ≤ a ∧ a ≤ hi)) := by
  unfold impl_within.f
  by_cases h : lo ≤ a
  · rw [if_pos h]; simp [h]
  · rw [if_neg h]; simp [h]

theorem w64 {x : Int} (h0 : -9223372036854775808 ≤ x) (h1 : x ≤ 9223372036854775807) : wrap64 x = x := by
  unfold wrap64
  omega

theorem eqPegS_loop (l : List S30) (hl : l.length ≤ 1048576) (d : Nat) : ∀ (k i : Nat), i + d = l.length → d < k → laws_eqPegS.l0 k l l (i : Int) = some true := by
  induction d with
  | zero =>
    intro k i hi hk
    obtain ⟨k, rfl⟩ : ∃ m, k = m + 1 := ⟨k - 1, by omega⟩
    simp only [laws_eqPegS.l0]
    rw [if_neg (by omega)]
  | succ d ih =>
    intro k i hi hk
    obtain ⟨k, rfl⟩ : ∃ m, k = m + 1 := ⟨k - 1, by omega⟩
    simp only [laws_eqPegS.l0]
    rw [if_pos (by omega), if_pos (by omega), if_pos (by omega)]
    have e : ∀ a b : Int, laws_eqPeg.f a b a b = some true := fun a b => by simp [laws_eqPeg.f]
    rw [e, w64 (by omega) (by omega)]
    exact ih k (i + 1) (by omega) (by omega)
theorem eqPegS_self (k : Nat) (l : List S30) (hl : l.length ≤ 1048576) (hk : l.length < k) : laws_eqPegS.f k l l = some true := by
  unfold laws_eqPegS.f
  rw [if_pos rfl]
  exact eqPegS_loop l hl l.length k 0 (by omega) hk

/-- What marking makes of n pegs, from number a on. -/
def markedPegs (a n : Nat) : List S30 := (List.range' 0 n).map fun (i : Nat) => (⟨((a + 2 * i : Nat) : Int), ((a + 2 * i + 1 : Nat) : Int)⟩ : S30)
theorem markedPegs_length (a n : Nat) : (markedPegs a n).length = n := by simp [markedPegs]
theorem rdPegNat (l : List S30) (i : Nat) (h : i < l.length) : rd_T30 l (i : Int) = l[i] := by
  unfold rd_T30
  simp [List.getD_eq_getElem?_getD, List.getElem?_eq_getElem h]
theorem markPegS_loop (a : Nat) (ha : a ≤ 1000) (n : Nat) (hn : n ≤ 1048576) (d : Nat) : ∀ (k i : Nat) (x : List S30), i + d = n → d < k → x.length = n → x.take i = (markedPegs a n).take i →
    laws_markPegS.l0 k x ((a + 2 * i : Nat) : Int) (i : Int) = some (((a + 2 * n : Nat) : Int), markedPegs a n) := by
  induction d with
  | zero =>
    intro k i x hi hk hx hp
    obtain ⟨k, rfl⟩ : ∃ m, k = m + 1 := ⟨k - 1, by omega⟩
    simp only [laws_markPegS.l0]
    rw [if_neg (by omega)]
    have hl := markedPegs_length a n
    rw [List.take_of_length_le (by omega), List.take_of_length_le (by omega)] at hp
    rw [hp, show i = n by omega]
  | succ d ih =>
    intro k i x hi hk hx hp
    obtain ⟨k, rfl⟩ : ∃ m, k = m + 1 := ⟨k - 1, by omega⟩
    have hlt : i < x.length := by omega
    have hl := markedPegs_length a n
    simp only [laws_markPegS.l0]
    rw [if_pos (by omega), if_pos (by omega), Option.bind_some, Int.toNat_natCast, w64 (x := ((a + 2 * i : Nat) : Int) + 1) (by omega) (by omega), w64 (by omega) (by omega), w64 (by omega) (by omega),
      show ((a + 2 * i : Nat) : Int) + 1 + 1 = ((a + 2 * (i + 1) : Nat) : Int) by omega, show (i : Int) + 1 = ((i + 1 : Nat) : Int) by omega]
    refine ih k (i + 1) _ (by omega) (by omega) (by simpa using hx) ?_
    have hr : (rd_T30 (x.set i (⟨((a + 2 * i : Nat) : Int), (rd_T30 x (i : Int)).f1⟩ : S30)) (i : Int)).f0 = ((a + 2 * i : Nat) : Int) := by
      rw [rdPegNat _ i (by simpa using hlt), List.getElem_set_self]
    rw [hr]
    simp only [List.set_set]
    have hm : (markedPegs a n)[i]? = some ⟨((a + 2 * i : Nat) : Int), ((a + 2 * i + 1 : Nat) : Int)⟩ := by
      unfold markedPegs
      rw [List.getElem?_map, List.getElem?_range' (by omega)]
      simp
    rw [List.take_set, List.take_add_one, List.take_add_one, hp, hm, List.getElem?_eq_getElem hlt]
    simp only [Option.toList_some]
    rw [List.set_append_right _ _ (by simp; omega)]
    simp [hl, Nat.min_eq_left (show i ≤ n by omega)]
theorem markPegS_eq (k : Nat) (a : Nat) (ha : a ≤ 1000) (l : List S30) (hl : l.length ≤ 1048576) (hk : l.length < k) : laws_markPegS.f k l (a : Int) = some (((a + 2 * l.length : Nat) : Int), markedPegs a l.length) :=
  markPegS_loop a ha l.length hl l.length k 0 l (by omega) hk rfl (by simp)
theorem heldPegS_loop (a : Nat) (ha : a ≤ 1000) (n : Nat) (hn : n ≤ 1048576) (d : Nat) : ∀ (k i : Nat), i + d = n → d < k →
    laws_heldPegS.l0 k (markedPegs a n) ((a + 2 * i : Nat) : Int) (i : Int) = some ((a + 2 * n : Nat) : Int) := by
  induction d with
  | zero =>
    intro k i hi hk
    obtain ⟨k, rfl⟩ : ∃ m, k = m + 1 := ⟨k - 1, by omega⟩
    have hl := markedPegs_length a n
    simp only [laws_heldPegS.l0]
    rw [if_neg (by omega), show i = n by omega]
  | succ d ih =>
    intro k i hi hk
    obtain ⟨k, rfl⟩ : ∃ m, k = m + 1 := ⟨k - 1, by omega⟩
    have hl := markedPegs_length a n
    have hm : (markedPegs a n)[i]'(by omega) = ⟨((a + 2 * i : Nat) : Int), ((a + 2 * i + 1 : Nat) : Int)⟩ := by
      unfold markedPegs
      simp
    simp only [laws_heldPegS.l0]
    rw [if_pos (by omega), if_pos (by omega), rdPegNat _ i (by omega), hm, w64 (x := ((a + 2 * i : Nat) : Int) + 1) (by omega) (by omega), w64 (by omega) (by omega), w64 (by omega) (by omega), if_pos rfl, if_pos (by simp),
      show ((a + 2 * i : Nat) : Int) + 1 + 1 = ((a + 2 * (i + 1) : Nat) : Int) by omega, show (i : Int) + 1 = ((i + 1 : Nat) : Int) by omega]
    exact ih k (i + 1) (by omega) (by omega)
theorem heldPegS_eq (k : Nat) (a : Nat) (ha : a ≤ 1000) (n : Nat) (hn : n ≤ 1048576) (hk : n < k) : laws_heldPegS.f k (markedPegs a n) (a : Int) = some ((a + 2 * n : Nat) : Int) :=
  heldPegS_loop a ha n hn n k 0 (by omega) hk

/-- The one pure statement of the law FnExactStripPolygon. -/
def FnExactStripPolygon.Pure : Prop :=
  ∀ (a0 : Int), I64 a0 → ∃ k, laws_FnExactStripPolygon.f k a0 = some true

theorem FnExactStripPolygon : FnExactStripPolygon.Pure := by
  intro s _
  obtain ⟨k, hk⟩ : ∃ k : Nat, 20 ≤ k := ⟨20, Nat.le_refl _⟩
  refine ⟨k + 2, ?_⟩
  have e : ∃ r b, spec_StripPolygon.f s = some (r, b) ∧ impl_StripPolygon.f s = some (r, b) ∧ r.length ≤ 4 := by
    unfold spec_StripPolygon.f impl_StripPolygon.f
    rw [in_eq, within_eq, Option.bind_some]
    by_cases c : 1 ≤ s ∧ s ≤ 5
    · rw [if_pos (by simpa using c)]
      exact ⟨_, _, rfl, rfl, by simp⟩
    · rw [if_neg (by simpa using c)]
      exact ⟨_, _, rfl, rfl, by simp⟩
  obtain ⟨r, b, h1, h2, hr⟩ := e
  have hm : laws_markPegS.f (k + 1) r 1 = some (((1 + 2 * r.length : Nat) : Int), markedPegs 1 r.length) := markPegS_eq (k + 1) 1 (by omega) r (by omega) (by omega)
  have hh : laws_heldPegS.f (k + 1) (markedPegs 1 r.length) 1 = some ((1 + 2 * r.length : Nat) : Int) := heldPegS_eq (k + 1) 1 (by omega) r.length (by omega) (by omega)
  have hh2 : laws_heldPegS.f k (markedPegs 1 r.length) 1 = some ((1 + 2 * r.length : Nat) : Int) := heldPegS_eq k 1 (by omega) r.length (by omega) (by omega)
  unfold laws_FnExactStripPolygon.f
  rw [h1, h2, Option.bind_some, Option.bind_some, eqPegS_self _ r (by omega) (by omega), Option.bind_some, if_pos rfl]
  simp only [laws_FnExactStripPolygon.j0]
  rw [if_neg (by simp), hm, Option.bind_some, hh, Option.bind_some, if_neg (by omega), if_pos rfl, h2, Option.bind_some, eqPegS_self _ r (by omega) (by omega), Option.bind_some, if_pos rfl]
  simp only [laws_FnExactStripPolygon.j1]
  rw [if_neg (by simp), hh2, Option.bind_some, if_neg (by omega), if_pos rfl]

end Go.Proofs.Ytpbjgfniknafgab.Pure
