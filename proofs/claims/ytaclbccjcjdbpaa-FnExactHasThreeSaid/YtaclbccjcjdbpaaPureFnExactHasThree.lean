/- The program's HasThree returns what the reference's returns, for all arguments. No condition. -/
import Derived.Test.YtaclbccjcjdbpaaMXx0
import Derived.Test.YtaclbccjcjdbpaaMXx2
import Derived.Test.YtaclbccjcjdbpaaMXx3
import Derived.Test.YtaclbccjcjdbpaaMXx4
import Derived.Test.YtaclbccjcjdbpaaMXx5
import Derived.Test.YtaclbccjcjdbpaaMXx6
import Derived.Test.YtaclbccjcjdbpaaMXx7
import Derived.Test.YtaclbccjcjdbpaaMXx10
import Derived.Test.YtaclbccjcjdbpaaMXx11
import Derived.Test.YtaclbccjcjdbpaaMXx12
import Derived.Test.YtaclbccjcjdbpaaMXx13
import Derived.Test.YtaclbccjcjdbpaaV
namespace Go.Proofs.Ytaclbccjcjdbpaa.Pure
open Go.RowKit Go.Proofs.YtaclbccjcjdbpaaV Go.Proofs.Ytaclbccjcjdbpaa.MX Go.Proofs.YtaclbccjcjdbpaaW.PrintWords Go.Proofs.YtaclbccjcjdbpaaW.PrintLast Go.Proofs.YtaclbccjcjdbpaaW.PrintMore

theorem in_eq (a lo hi : Int) : spec_l1In.f a lo hi = some (decide (lo ≤ a ∧ a ≤ hi)) := by
  unfold spec_l1In.f
  by_cases h : lo ≤ a
  · rw [if_pos h]; simp [h]
  · rw [if_neg h]; simp [h]

theorem within_eq (a lo hi : Int) : impl_within.f a lo hi = some (decide (lo ≤ a ∧ a ≤ hi)) := by
  unfold impl_within.f
  by_cases h : lo ≤ a
  · rw [if_pos h]; simp [h]
  · rw [if_neg h]; simp [h]

theorem w64 {x : Int} (h0 : -9223372036854775808 ≤ x) (h1 : x ≤ 9223372036854775807) : wrap64 x = x := by
  unfold wrap64
  omega

theorem mul_bd {x y : Int} (A B : Nat) (hx : -(A : Int) ≤ x ∧ x ≤ A) (hy : -(B : Int) ≤ y ∧ y ≤ B) : -((A * B : Nat) : Int) ≤ x * y ∧ x * y ≤ ((A * B : Nat) : Int) := by
  have h1 : x.natAbs ≤ A := by omega
  have h2 : y.natAbs ≤ B := by omega
  have h3 := Nat.mul_le_mul h1 h2
  rw [← Int.natAbs_mul] at h3
  omega

/-- A peg's numbers. -/
def pegP (x y : Int) : Prop := (-40 ≤ x ∧ x ≤ 40) ∧ (-40 ≤ y ∧ y ≤ 40)
instance (x y : Int) : Decidable (pegP x y) := by unfold pegP; infer_instance

theorem pgIs_eq (x y : Int) : spec_pgIs.f x y = some (decide (pegP x y)) := by
  unfold spec_pgIs.f pegP
  simp only [in_eq, Option.bind_some]
  by_cases c : -40 ≤ x ∧ x ≤ 40
  · simp [c]
  · simp [c]

theorem implIsPeg_eq (x y : Int) : impl_IsPeg.f x y = some (decide (pegP x y)) := by
  unfold impl_IsPeg.f pegP
  simp only [within_eq, Option.bind_some]
  by_cases c : -40 ≤ x ∧ x ≤ 40
  · simp [c]
  · simp [c]

theorem arePegs_loop (l : List S34) (hl : l.length ≤ 9223372036854775807) (d : Nat) : ∀ (k i : Nat), i + d = l.length → d < k →
    ∃ r, slices_IndexFunc_impl_Peg_impl_Peg.l0 k l (l.length : Int) (i : Int) = some r ∧ decide (r ≥ 0) = (l.drop i).any fun p => !decide (pegP p.f0 p.f1) := by
  induction d with
  | zero =>
    intro k i hi hk
    obtain ⟨k, rfl⟩ : ∃ m, k = m + 1 := ⟨k - 1, by omega⟩
    refine ⟨-1, ?_, ?_⟩
    · simp only [slices_IndexFunc_impl_Peg_impl_Peg.l0]; rw [if_neg (by omega)]
    · rw [List.drop_of_length_le (by omega)]; rfl
  | succ d ih =>
    intro k i hi hk
    obtain ⟨k, rfl⟩ : ∃ m, k = m + 1 := ⟨k - 1, by omega⟩
    have hlt : i < l.length := by omega
    have hd : l.drop i = l[i] :: l.drop (i + 1) := List.drop_eq_getElem_cons hlt
    have hr : rd_T34 l (i : Int) = l[i] := by
      unfold rd_T34
      simp [List.getD_eq_getElem?_getD, List.getElem?_eq_getElem hlt]
    simp only [slices_IndexFunc_impl_Peg_impl_Peg.l0]
    rw [if_pos (by omega), if_pos (by omega), if_pos (by omega), hr]
    unfold impl_arePegs_1.f
    simp only [implIsPeg_eq, Option.bind_some]
    by_cases c : pegP l[i].f0 l[i].f1
    · obtain ⟨r, h1, h2⟩ := ih k (i + 1) (by omega) (by omega)
      refine ⟨r, ?_, ?_⟩
      · rw [if_neg (by simp [c]), w64 (by omega) (by omega)]
        exact h1
      · rw [h2, hd, List.any_cons]; simp [c]
    · refine ⟨(i : Int), by rw [if_pos (by simp [c])], ?_⟩
      rw [hd, List.any_cons]
      simp [c]

theorem arePegs_eq (k : Nat) (l : List S34) (hl : l.length ≤ 9223372036854775807) (hk : l.length < k) : impl_arePegs.f k l = some (l.all fun p => decide (pegP p.f0 p.f1)) := by
  obtain ⟨r, h1, h2⟩ := arePegs_loop l hl l.length k 0 (by omega) hk
  unfold impl_arePegs.f slices_ContainsFunc_impl_Peg_impl_Peg.f slices_IndexFunc_impl_Peg_impl_Peg.f
  rw [show ((0 : Nat) : Int) = 0 from rfl] at h1
  rw [h1]
  simp only [Option.bind_some, h2, List.drop_zero]
  congr 1
  rw [List.all_eq_not_any_not]

/-- Twice the area of three points. -/
def tri (ax ay bx by_ cx cy : Int) : Int := (bx - ax) * (cy - ay) - (by_ - ay) * (cx - ax)

theorem pgTurn_eq (M : Nat) (hM : M ≤ 1000000) {ax ay bx by_ cx cy : Int} (h1 : -(M : Int) ≤ ax ∧ ax ≤ M) (h2 : -(M : Int) ≤ ay ∧ ay ≤ M) (h3 : -(M : Int) ≤ bx ∧ bx ≤ M) (h4 : -(M : Int) ≤ by_ ∧ by_ ≤ M) (h5 : -(M : Int) ≤ cx ∧ cx ≤ M) (h6 : -(M : Int) ≤ cy ∧ cy ≤ M) :
    spec_pgTurn.f ax ay bx by_ cx cy = some (tri ax ay bx by_ cx cy) := by
  unfold spec_pgTurn.f tri
  rw [w64 (x := bx - ax) (by omega) (by omega), w64 (x := cy - ay) (by omega) (by omega), w64 (x := by_ - ay) (by omega) (by omega), w64 (x := cx - ax) (by omega) (by omega)]
  have q1 := mul_bd 2000000 2000000 (x := bx - ax) (y := cy - ay) (by omega) (by omega)
  have q2 := mul_bd 2000000 2000000 (x := by_ - ay) (y := cx - ax) (by omega) (by omega)
  rw [w64 (x := (bx - ax) * (cy - ay)) (by omega) (by omega), w64 (x := (by_ - ay) * (cx - ax)) (by omega) (by omega), w64 (by omega) (by omega)]

theorem turn_eq (M : Nat) (hM : M ≤ 1000000) {ax ay bx by_ cx cy : Int} (h1 : -(M : Int) ≤ ax ∧ ax ≤ M) (h2 : -(M : Int) ≤ ay ∧ ay ≤ M) (h3 : -(M : Int) ≤ bx ∧ bx ≤ M) (h4 : -(M : Int) ≤ by_ ∧ by_ ≤ M) (h5 : -(M : Int) ≤ cx ∧ cx ≤ M) (h6 : -(M : Int) ≤ cy ∧ cy ≤ M) :
    impl_turn.f ax ay bx by_ cx cy = some (tri ax ay bx by_ cx cy) := by
  unfold impl_turn.f impl_Peg_less.f impl_cross.f tri
  simp only [Option.bind_some]
  rw [w64 (x := bx - ax) (by omega) (by omega), w64 (x := cy - ay) (by omega) (by omega), w64 (x := by_ - ay) (by omega) (by omega), w64 (x := cx - ax) (by omega) (by omega)]
  have q1 := mul_bd 2000000 2000000 (x := bx - ax) (y := cy - ay) (by omega) (by omega)
  have q2 := mul_bd 2000000 2000000 (x := by_ - ay) (y := cx - ax) (by omega) (by omega)
  rw [w64 (x := (bx - ax) * (cy - ay)) (by omega) (by omega), w64 (x := (by_ - ay) * (cx - ax)) (by omega) (by omega), w64 (by omega) (by omega)]

def convPeg (p : S43) : S34 := ⟨p.f0, p.f1⟩

theorem toPegS_loop (l : List S43) (hl : l.length ≤ 1048576) (d : Nat) : ∀ (k i : Nat) (x : List S34), i + d = l.length → d < k → x.length = l.length → x.take i = (l.take i).map convPeg →
    laws_toPegS.l0 k l x (i : Int) = some (l.map convPeg) := by
  induction d with
  | zero =>
    intro k i x hi hk hx hp
    obtain ⟨k, rfl⟩ : ∃ m, k = m + 1 := ⟨k - 1, by omega⟩
    simp only [laws_toPegS.l0]
    rw [if_neg (by omega)]
    rw [List.take_of_length_le (by omega), List.take_of_length_le (by omega)] at hp
    rw [hp]
  | succ d ih =>
    intro k i x hi hk hx hp
    obtain ⟨k, rfl⟩ : ∃ m, k = m + 1 := ⟨k - 1, by omega⟩
    have hlt : i < l.length := by omega
    have hr : rd_T43 l (i : Int) = l[i] := by
      unfold rd_T43
      simp [List.getD_eq_getElem?_getD, List.getElem?_eq_getElem hlt]
    simp only [laws_toPegS.l0, laws_toPeg.f]
    rw [if_pos (by omega), if_pos (by omega), hr]
    simp only [Option.bind_some]
    rw [if_pos (by omega), w64 (by omega) (by omega)]
    refine ih k (i + 1) _ (by omega) (by omega) (by simpa using hx) ?_
    rw [Int.toNat_natCast, List.take_set, List.take_add_one, List.take_add_one, hp, List.getElem?_eq_getElem (by omega), List.getElem?_eq_getElem hlt]
    simp only [Option.toList_some, List.map_append, List.map_cons, List.map_nil]
    rw [List.set_append_right _ _ (by simp; omega)]
    simp [Nat.min_eq_left (Nat.le_of_lt hlt), convPeg]
theorem toPegS_eq (k : Nat) (l : List S43) (hl : l.length ≤ 1048576) (hk : l.length < k) : laws_toPegS.f k l = some (l.map convPeg) := by
  unfold laws_toPegS.f
  rw [if_pos (by omega), if_pos (by omega)]
  exact toPegS_loop l hl l.length k 0 _ (by omega) hk (by simp) (by simp)

theorem eqPegS_loop (l : List S34) (hl : l.length ≤ 1048576) (d : Nat) : ∀ (k i : Nat), i + d = l.length → d < k → laws_eqPegS.l0 k l l (i : Int) = some true := by
  induction d with
  | zero =>
    intro k i hi hk
    obtain ⟨k, rfl⟩ : ∃ m, k = m + 1 := ⟨k - 1, by omega⟩
    simp only [laws_eqPegS.l0]
    rw [if_neg (by omega)]
  | succ d ih =>
    intro k i hi hk
    obtain ⟨k, rfl⟩ : ∃ m, k = m + 1 := ⟨k - 1, by omega⟩
    simp only [laws_eqPegS.l0]
    rw [if_pos (by omega), if_pos (by omega), if_pos (by omega)]
    have e : ∀ a b : Int, laws_eqPeg.f a b a b = some true := fun a b => by simp [laws_eqPeg.f]
    rw [e, w64 (by omega) (by omega)]
    exact ih k (i + 1) (by omega) (by omega)
theorem eqPegS_self (k : Nat) (l : List S34) (hl : l.length ≤ 1048576) (hk : l.length < k) : laws_eqPegS.f k l l = some true := by
  unfold laws_eqPegS.f
  rw [if_pos rfl]
  exact eqPegS_loop l hl l.length k 0 (by omega) hk

def samePeg (p q : S34) : Bool := p.f0 == q.f0 && p.f1 == q.f1
def pegB (p : S34) : Bool := decide (pegP p.f0 p.f1)
def distFrom : List S34 → List S34 → Bool
  | _, [] => true
  | pre, p :: r => !(pre.any (samePeg p)) && distFrom (pre ++ [p]) r
/-- Different pegs, no more than 30 and at least one. -/
def goodB (l : List S34) : Bool := decide (1 ≤ l.length ∧ l.length ≤ 30) && (l.all pegB && distFrom [] l)
theorem rdPeg (pre r : List S34) (p : S34) : rd_T34 (pre ++ p :: r) (pre.length : Int) = p := by
  unfold rd_T34
  simp [List.getD_eq_getElem?_getD]

theorem szPegS_eq (l : List S43) (hl : l.length ≤ maxLen) : laws_szPegS.f l 1048576 = some (if 1048576 < l.length then -1 else 1048576 - (l.length : Int)) := by
  unfold maxLen at hl
  unfold laws_szPegS.f
  rw [w64 (by omega) (by omega)]
  by_cases c : 1048576 < l.length
  · rw [if_pos (by omega), if_pos c]
  · rw [if_neg (by omega), if_neg c]

theorem rdPegNat (l : List S34) (i : Nat) (h : i < l.length) : rd_T34 l (i : Int) = l[i] := by
  unfold rd_T34
  simp [List.getD_eq_getElem?_getD, List.getElem?_eq_getElem h]

/-- A peg near by. -/
def inB (p : S34) : Prop := (-((100 : Nat) : Int) ≤ p.f0 ∧ p.f0 ≤ ((100 : Nat) : Int)) ∧ (-((100 : Nat) : Int) ≤ p.f1 ∧ p.f1 ≤ ((100 : Nat) : Int))
theorem area_small {a b c : S34} (ha : inB a) (hb : inB b) (hc : inB c) : -100000 ≤ tri a.f0 a.f1 b.f0 b.f1 c.f0 c.f1 ∧ tri a.f0 a.f1 b.f0 b.f1 c.f0 c.f1 ≤ 100000 := by
  unfold inB at ha hb hc
  unfold tri
  have q1 := mul_bd 200 200 (x := b.f0 - a.f0) (y := c.f1 - a.f1) (by omega) (by omega)
  have q2 := mul_bd 200 200 (x := b.f1 - a.f1) (y := c.f0 - a.f0) (by omega) (by omega)
  omega

abbrev visA := Bool
def visT (_tw : Int) (a b c : S34) (acc : Bool) : Bool := acc || (tri a.f0 a.f1 b.f0 b.f1 c.f0 c.f1 == 0)
theorem visT_eq (tw : Int) (a b c : S34) (acc : Bool) (ha : inB a) (hb : inB b) (hc : inB c) : impl_HasThree_1.f a.f0 a.f1 b.f0 b.f1 c.f0 c.f1 acc = some (visT tw a b c acc) := by
  unfold impl_HasThree_1.f visT
  cases acc with
  | true => rfl
  | false =>
    rw [if_neg (by decide), turn_eq 100 (by omega) ha.1 ha.2 hb.1 hb.2 hc.1 hc.2, Option.bind_some, Bool.false_or]

def T2 (tw : Int) (a b : S34) : List S34 → visA → visA
  | [], acc => acc
  | c :: l, acc => T2 tw a b l (visT tw a b c acc)
def T1 (tw : Int) (L : List S34) (a : S34) : Nat → Nat → visA → visA
  | 0, _, acc => acc
  | d + 1, j, acc => T1 tw L a d (j + 1) (T2 tw a (L.getD j z34) (L.take j) acc)
def T0 (tw : Int) (L : List S34) : Nat → Nat → visA → visA
  | 0, _, acc => acc
  | d + 1, i, acc => T0 tw L d (i + 1) (T1 tw L (L.getD i z34) i 0 acc)

theorem threes_l2 (tw : Int) (L : List S34) (n i : Int) (a b : S34) (ha : inB a) (hb : inB b) (C : List S34) (hC : ∀ p ∈ C, inB p) (hlen : C.length ≤ 100000) (K0 : Nat) (R : visA) (B : List S34) (nB x21 : Int) (d : Nat) :
    ∀ (k j : Nat) (acc : visA), j + d = C.length → K0 + d + 10 ≤ k →
    (∀ k', K0 ≤ k' → impl_threes.l1 k' L L n i B nB (wrap64 (x21 + 1)) (T2 tw a b (C.drop j) acc)  a.f0 a.f1 = some R) →
    impl_threes.l2 k L L n i B nB x21 C (C.length : Int) (j : Int) acc  a.f0 a.f1 b.f0 b.f1 = some R := by
  induction d with
  | zero =>
    intro k j acc hj hk hc
    obtain ⟨k, rfl⟩ : ∃ m, k = m + 1 := ⟨k - 1, by omega⟩
    have h1 := hc k (by omega)
    rw [List.drop_of_length_le (by omega)] at h1
    simp only [impl_threes.l2]
    rw [if_neg (by omega)]
    exact h1
  | succ d ih =>
    intro k j acc hj hk hc
    obtain ⟨k, rfl⟩ : ∃ m, k = m + 1 := ⟨k - 1, by omega⟩
    have hlt : j < C.length := by omega
    have hr : rd_T34 C (j : Int) = C[j] := by
      unfold rd_T34
      simp [List.getD_eq_getElem?_getD, List.getElem?_eq_getElem hlt]
    have hp := hC C[j] (List.getElem_mem hlt)
    rw [List.drop_eq_getElem_cons hlt, T2] at hc
    simp only [impl_threes.l2]
    rw [if_pos (by omega), if_pos (by omega), if_pos (by omega), hr]
    rw [visT_eq tw a b C[j] acc ha hb hp, Option.bind_some, w64 (x := (j : Int) + 1) (by omega) (by omega)]
    exact ih k (j + 1) _ (by omega) (by omega) hc
theorem threes_l1 (tw : Int) (L : List S34) (hL : ∀ p ∈ L, inB p) (hlen : L.length ≤ 100000) (n : Int) (i m : Nat) (_hi : i ≤ L.length) (hm : m ≤ L.length) (a : S34) (ha : inB a) (K0 : Nat) (R : visA) (d : Nat) :
    ∀ (k j : Nat) (acc : visA), j + d = m → K0 + d * (L.length + 20) + 1 ≤ k →
    (∀ k', K0 ≤ k' → impl_threes.l0 k' L L n (wrap64 ((i : Int) + 1)) (T1 tw L a d j acc)  = some R) →
    impl_threes.l1 k L L n (i : Int) (L.take m) ((L.take m).length : Int) (j : Int) acc  a.f0 a.f1 = some R := by
  have hti : (L.take m).length = m := by rw [List.length_take]; omega
  induction d with
  | zero =>
    intro k j acc hj hk hc
    obtain ⟨k, rfl⟩ : ∃ m, k = m + 1 := ⟨k - 1, by omega⟩
    have h1 := hc k (by omega)
    rw [T1] at h1
    simp only [impl_threes.l1]
    rw [if_neg (by omega)]
    exact h1
  | succ d ih =>
    intro k j acc hj hk hc
    obtain ⟨k, rfl⟩ : ∃ m, k = m + 1 := ⟨k - 1, by omega⟩
    rw [Nat.succ_mul] at hk
    have hr : rd_T34 (L.take m) (j : Int) = L.getD j z34 := by
      unfold rd_T34
      rw [List.getD_eq_getElem?_getD, List.getD_eq_getElem?_getD, List.getElem?_take]
      simp [show j < m by omega]
    have hp : inB (L.getD j z34) := by
      rw [List.getD_eq_getElem?_getD, List.getElem?_eq_getElem (by omega), Option.getD_some]
      exact hL _ (List.getElem_mem _)
    have htj : (L.take j).length = j := by rw [List.length_take]; omega
    rw [T1] at hc
    simp only [impl_threes.l1]
    rw [if_pos (by omega), if_pos (by omega), if_pos (by omega), if_pos (by omega), Option.bind_some, hr, show ((j : Int)).toNat = j from rfl]
    refine threes_l2 tw L _ _ a (L.getD j z34) ha hp (L.take j) (fun p h => hL p (List.mem_of_mem_take h)) (by omega) (K0 + d * (L.length + 20) + 1) R _ _ _ (L.take j).length k 0 acc (by omega) (by omega) fun k' hk' => ?_
    rw [w64 (x := (j : Int) + 1) (by omega) (by omega), List.drop_zero]
    exact ih k' (j + 1) _ (by omega) (by omega) hc
theorem threes_l0 (tw : Int) (L : List S34) (hL : ∀ p ∈ L, inB p) (hlen : L.length ≤ 2000) (d : Nat) : ∀ (k i : Nat) (acc : visA), i + d = L.length → d * 5000000 + 5 ≤ k →
    impl_threes.l0 k L L (L.length : Int) (i : Int) acc  = some (T0 tw L d i acc) := by
  induction d with
  | zero =>
    intro k i acc hi hk
    obtain ⟨k, rfl⟩ : ∃ m, k = m + 1 := ⟨k - 1, by omega⟩
    simp only [impl_threes.l0]
    rw [if_neg (by omega), T0]
  | succ d ih =>
    intro k i acc hi hk
    obtain ⟨k, rfl⟩ : ∃ m, k = m + 1 := ⟨k - 1, by omega⟩
    have hr : rd_T34 L (i : Int) = L.getD i z34 := by
      unfold rd_T34
      rw [show ((i : Int)).toNat = i from rfl]
    have hp : inB (L.getD i z34) := by
      rw [List.getD_eq_getElem?_getD, List.getElem?_eq_getElem (by omega), Option.getD_some]
      exact hL _ (List.getElem_mem _)
    have hm : i * (L.length + 20) ≤ 2000 * 2020 := Nat.mul_le_mul (by omega) (by omega)
    rw [T0]
    simp only [impl_threes.l0]
    rw [if_pos (by omega), if_pos (by omega), if_pos (by omega), if_pos (by omega), Option.bind_some, hr, show ((i : Int)).toNat = i from rfl]
    have hgo := threes_l1 tw L hL (by omega) (L.length : Int) i i (by omega) (by omega) (L.getD i z34) hp (d * 5000000 + 5) (T0 tw L d (i + 1) (T1 tw L (L.getD i z34) i 0 acc)) i k 0 acc (by omega) (by omega) fun k' hk' => by
      rw [w64 (x := (i : Int) + 1) (by omega) (by omega)]
      exact ih k' (i + 1) _ (by omega) hk'

    exact hgo

def allP (l : List S34) : Prop := ∀ q ∈ l, pegP q.f0 q.f1

theorem sortP_length (l : List S34) : (sortP l).length = l.length := (sortP_perm l).length_eq

theorem sorted_eq (l : List S34) (hl : l.length ≤ 100000) : impl_sorted.f l = some (sortP l) := by
  unfold impl_sorted.f slices_Clone_impl_Peg_impl_Peg.f slices_SortFunc_impl_Peg_impl_Peg.f
  simp only [Option.bind_some, List.nil_append, List.length_nil]
  rw [if_pos (by omega), Option.bind_some, if_pos (by omega), Option.bind_some]

/-- Which way three pegs turn. -/
def turnP (a b c : S34) : Int := tri a.f0 a.f1 b.f0 b.f1 c.f0 c.f1
theorem pgTurnP_eq {a b c : S34} (ha : pegP a.f0 a.f1) (hb : pegP b.f0 b.f1) (hc : pegP c.f0 c.f1) : spec_pgTurn.f a.f0 a.f1 b.f0 b.f1 c.f0 c.f1 = some (turnP a b c) :=
  pgTurn_eq 40 (by omega) ha.1 ha.2 hb.1 hb.2 hc.1 hc.2
theorem turnP_eq {a b c : S34} (ha : pegP a.f0 a.f1) (hb : pegP b.f0 b.f1) (hc : pegP c.f0 c.f1) : impl_turn.f a.f0 a.f1 b.f0 b.f1 c.f0 c.f1 = some (turnP a b c) :=
  turn_eq 40 (by omega) ha.1 ha.2 hb.1 hb.2 hc.1 hc.2

theorem ltP_trans {x y z : S34} (h1 : ltP x y = true) (h2 : ltP z y = false) : ltP x z = true := by
  unfold ltP at *
  rw [decide_eq_true_eq] at *
  rw [decide_eq_false_iff_not] at h2
  omega
theorem ltP_irrefl (x : S34) : ltP x x = false := by
  unfold ltP
  rw [decide_eq_false_iff_not]
  omega
theorem ltP_of_ne {x y : S34} (h : ltP y x = false) (hne : x ≠ y) : ltP x y = true := by
  cases h2 : ltP x y with
  | true => rfl
  | false => exact absurd (ltP_total h2 h) hne
theorem sorted_get (s : List S34) (hs : s.Pairwise fun a b => ltP b a = false) (i j : Nat) (hij : i ≤ j) (hj : j < s.length) : ltP s[j] (s[i]'(by omega)) = false := by
  rcases Nat.lt_or_ge i j with h | h
  · exact List.pairwise_iff_getElem.1 hs i j (by omega) hj h
  · have : i = j := by omega
    subst this
    exact ltP_irrefl _
theorem compact_facts (s : List S34) (hs : s.Pairwise fun a b => ltP b a = false) (m : Nat) : m ≤ s.length →
    (∀ x, x ∈ Go.Lib.compactUpTo s.toArray m ↔ x ∈ s.take m) ∧ ((Go.Lib.compactUpTo s.toArray m).Pairwise fun a b => ltP a b = true) := by
  induction m with
  | zero =>
    intro _
    refine ⟨fun x => ?_, ?_⟩
    · simp [Go.Lib.compactUpTo]
    · simp [Go.Lib.compactUpTo]
  | succ m ih =>
    intro hm
    obtain ⟨h1, h2⟩ := ih (by omega)
    have hg : s.toArray[m]! = s[m] := by rw [getElem!_pos s.toArray m (by simp; omega)]; simp
    rw [Go.Lib.compactUpTo_succ, List.take_add_one, List.getElem?_eq_getElem (by omega), Option.toList_some, hg]
    by_cases c : Go.Lib.keeps s.toArray m = true
    · rw [if_pos c]
      refine ⟨fun x => by rw [List.mem_append, List.mem_append, h1], ?_⟩
      rw [List.pairwise_append]
      refine ⟨h2, List.pairwise_singleton _ _, fun x hx y hy => ?_⟩
      obtain rfl := List.mem_singleton.1 hy
      obtain ⟨i, hi, rfl⟩ := List.getElem_of_mem ((h1 x).1 hx)
      rw [List.length_take] at hi
      rw [List.getElem_take]
      have hm0 : 0 < m := by omega
      have hne : s[m] ≠ s[m - 1] := by
        unfold Go.Lib.keeps at c
        rw [decide_eq_true_eq] at c
        rcases c with c | c
        · omega
        · rw [hg, getElem!_pos s.toArray (m - 1) (by simp; omega)] at c
          simpa using c
      have hlt : ltP s[m - 1] s[m] = true := ltP_of_ne (sorted_get s hs (m - 1) m (by omega) (by omega)) (Ne.symm hne)
      cases hq : ltP s[i] s[m] with
      | true => rfl
      | false =>
        have h3 := sorted_get s hs i (m - 1) (by omega) (by omega)
        have h4 := ltP_trans hlt hq
        rw [h3] at h4
        exact absurd h4 (by decide)
    · rw [if_neg c]
      have hm0 : m ≠ 0 := by
        rintro rfl
        exact c (by simp [Go.Lib.keeps])
      have he : s[m] = s[m - 1] := by
        unfold Go.Lib.keeps at c
        rw [decide_eq_true_eq, not_or, Classical.not_not, hg, getElem!_pos s.toArray (m - 1) (by simp; omega)] at c
        simpa using c.2
      refine ⟨fun x => ?_, by simpa using h2⟩
      rw [List.append_nil, h1, List.mem_append, List.mem_singleton]
      refine ⟨.inl, fun h => h.elim id fun h => ?_⟩
      rw [h, he, List.mem_take_iff_getElem]
      exact ⟨m - 1, by omega, rfl⟩
theorem strict_nodup (l : List S34) (h : l.Pairwise fun a b => ltP a b = true) : l.Nodup := by
  refine List.Pairwise.imp ?_ h
  intro a b hab he
  subst he
  rw [ltP_irrefl] at hab
  exact absurd hab (by decide)
theorem strict_sorted (l : List S34) (h : l.Pairwise fun a b => ltP a b = true) : l.Pairwise fun a b => ltP b a = false := by
  refine List.Pairwise.imp ?_ h
  intro a b hab
  unfold ltP at *
  rw [decide_eq_true_eq] at hab
  rw [decide_eq_false_iff_not]
  omega
/-- Pegs in order, each once. -/
def setP (l : List S34) : List S34 := Go.Lib.compactUpTo (sortP l).toArray (sortP l).length
theorem setP_mem (l : List S34) (x : S34) : x ∈ setP l ↔ x ∈ l := by
  have := (compact_facts (sortP l) (sortP_sorted l) (sortP l).length (Nat.le_refl _)).1 x
  rw [List.take_length] at this
  exact this.trans (sortP_perm l).mem_iff
theorem setP_nodup (l : List S34) : (setP l).Nodup := strict_nodup _ (compact_facts (sortP l) (sortP_sorted l) (sortP l).length (Nat.le_refl _)).2
theorem setP_sorted (l : List S34) : (setP l).Pairwise fun a b => ltP b a = false := strict_sorted _ (compact_facts (sortP l) (sortP_sorted l) (sortP l).length (Nat.le_refl _)).2
theorem setP_eq (l m : List S34) (hm : m.Nodup) (h : ∀ x, x ∈ m ↔ x ∈ l) : setP l = sortP m :=
  sorted_one (((List.perm_ext_iff_of_nodup (setP_nodup l) hm).2 fun x => (setP_mem l x).trans (h x).symm).trans (sortP_perm m).symm) (setP_sorted l) (sortP_sorted m)
theorem setP_length (l : List S34) : (setP l).length = l.length ↔ l.Nodup := by
  constructor
  · intro h
    have hle : ∀ n, n ≤ (sortP l).length → (∃ j, j < n ∧ Go.Lib.keeps (sortP l).toArray j = false) → (Go.Lib.compactUpTo (sortP l).toArray n).length < n := by
      intro n
      induction n with
      | zero => rintro _ ⟨j, hj, _⟩; omega
      | succ n ih =>
        rintro hn ⟨j, hj, hk⟩
        rw [Go.Lib.compactUpTo_succ, List.length_append]
        have hc : (Go.Lib.compactUpTo (sortP l).toArray n).length ≤ n := by
          unfold Go.Lib.compactUpTo
          rw [List.length_map]
          exact Nat.le_trans (List.length_filter_le _ _) (by simp)
        by_cases e : j = n
        · subst e
          rw [hk]
          simp
          omega
        · have := ih (by omega) ⟨j, by omega, hk⟩
          split <;> simp <;> omega
    have hall : ∀ j, j < (sortP l).length → Go.Lib.keeps (sortP l).toArray j = true := by
      intro j hj
      cases hk : Go.Lib.keeps (sortP l).toArray j with
      | true => rfl
      | false =>
        have := hle (sortP l).length (Nat.le_refl _) ⟨j, hj, hk⟩
        unfold setP at h
        rw [h, sortP_length] at this
        omega
    have he : setP l = sortP l := by
      unfold setP
      have := Go.Lib.compact_all (sortP l) hall
      exact this
    have := setP_nodup l
    rw [he] at this
    exact (sortP_perm l).nodup_iff.1 this
  · intro h
    rw [setP_eq l l h (fun _ => Iff.rfl), sortP_length]

theorem samePeg_iff (p q : S34) : samePeg p q = true ↔ p = q := by
  unfold samePeg
  rw [Bool.and_eq_true, beq_iff_eq, beq_iff_eq]
  constructor
  · rintro ⟨h1, h2⟩
    cases p; cases q
    simp only at h1 h2
    rw [h1, h2]
  · rintro rfl
    exact ⟨rfl, rfl⟩
theorem distFrom_iff (l : List S34) : ∀ pre : List S34, distFrom pre l = true ↔ (∀ q ∈ l, q ∉ pre) ∧ l.Nodup := by
  induction l with
  | nil => intro pre; simp [distFrom]
  | cons p r ih =>
    intro pre
    have hany : pre.any (samePeg p) = true ↔ p ∈ pre := by
      rw [List.any_eq_true]
      constructor
      · rintro ⟨q, hq, hs⟩
        rw [samePeg_iff] at hs
        subst hs
        exact hq
      · intro h
        exact ⟨p, h, (samePeg_iff p p).2 rfl⟩
    unfold distFrom
    rw [Bool.and_eq_true, ih, Bool.not_eq_true', ← Bool.not_eq_true, hany, List.nodup_cons]
    constructor
    · rintro ⟨h1, h2, h3⟩
      refine ⟨fun q hq => ?_, ?_, h3⟩
      · rcases List.mem_cons.1 hq with rfl | hq
        · exact h1
        · exact fun h => h2 q hq (List.mem_append_left _ h)
      · exact fun h => h2 p h (by simp)
    · rintro ⟨h1, h2, h3⟩
      refine ⟨h1 p (by simp), fun q hq h => ?_, h3⟩
      rcases List.mem_append.1 h with h | h
      · exact h1 q (List.mem_cons_of_mem _ hq) h
      · obtain rfl := List.mem_singleton.1 h
        exact h2 hq
theorem goodB_iff (l : List S34) : goodB l = true ↔ (1 ≤ l.length ∧ l.length ≤ 30) ∧ allP l ∧ l.Nodup := by
  unfold goodB
  rw [Bool.and_eq_true, Bool.and_eq_true, decide_eq_true_eq, List.all_eq_true, distFrom_iff]
  have e : (∀ x ∈ l, pegB x = true) ↔ allP l := by
    unfold allP pegB
    simp
  rw [e]
  simp

theorem tri_cyc (ax ay bx by_ px py : Int) : tri px py ax ay bx by_ = tri ax ay bx by_ px py := by
  unfold tri
  grind

/-- Do two of the first ones stand in a line with p? -/
def pairAny (L : List S34) (p : S34) : Nat → Nat → Bool
  | 0, _ => false
  | d + 1, j => (L.take j).any (fun c => turnP p (L.getD j z34) c == 0) || pairAny L p d (j + 1)
def threeAny (L : List S34) : Nat → Nat → Bool
  | 0, _ => false
  | d + 1, i => pairAny L (L.getD i z34) i 0 || threeAny L d (i + 1)

theorem T2_any (tw : Int) (a b : S34) (l : List S34) : ∀ acc, T2 tw a b l acc = (acc || l.any (fun c => turnP a b c == 0)) := by
  induction l with
  | nil => intro acc; simp [T2]
  | cons c l ih =>
    intro acc
    rw [T2, ih, List.any_cons, ← Bool.or_assoc]
    rfl
theorem T1_any (tw : Int) (L : List S34) (a : S34) (d : Nat) : ∀ (j : Nat) (acc : Bool), T1 tw L a d j acc = (acc || pairAny L a d j) := by
  induction d with
  | zero => intro j acc; simp [T1, pairAny]
  | succ d ih =>
    intro j acc
    rw [T1, ih, T2_any, pairAny, Bool.or_assoc]
theorem T0_any (tw : Int) (L : List S34) (d : Nat) : ∀ (i : Nat) (acc : Bool), T0 tw L d i acc = (acc || threeAny L d i) := by
  induction d with
  | zero => intro i acc; simp [T0, threeAny]
  | succ d ih =>
    intro i acc
    rw [T0, ih, T1_any, threeAny, Bool.or_assoc]

/-- The same, as the reference looks for it. -/
def fitAny (L : List S34) (p : S34) : Nat → Nat → Bool
  | 0, _ => false
  | d + 1, i => (L.take i).any (fun b => turnP (L.getD i z34) b p == 0) || fitAny L p d (i + 1)
theorem ctFits_in (L : List S34) (n i : Int) (p a : S34) (hp : pegP p.f0 p.f1) (ha : pegP a.f0 a.f1) (B : List S34) (hB : allP B) (hlen : B.length ≤ 100000) (K0 : Nat) (R : Bool)
    (hc : ∀ k, K0 ≤ k → spec_ctFits.l0 k L L n (wrap64 (i + 1)) p.f0 p.f1 = some R) (d : Nat) : ∀ (k j : Nat), j + d = B.length → K0 + d + 1 ≤ k →
    spec_ctFits.l1 k L L n i B (B.length : Int) (j : Int) p.f0 p.f1 a.f0 a.f1 = some (!((B.drop j).any (fun b => turnP a b p == 0)) && R) := by
  induction d with
  | zero =>
    intro k j hj hk
    obtain ⟨k, rfl⟩ : ∃ m, k = m + 1 := ⟨k - 1, by omega⟩
    simp only [spec_ctFits.l1]
    rw [if_neg (by omega), hc k (by omega), List.drop_of_length_le (by omega)]
    rfl
  | succ d ih =>
    intro k j hj hk
    obtain ⟨k, rfl⟩ : ∃ m, k = m + 1 := ⟨k - 1, by omega⟩
    have hlt : j < B.length := by omega
    simp only [spec_ctFits.l1]
    rw [if_pos (by omega), if_pos (by omega), if_pos (by omega), rdPegNat B j hlt, pgTurnP_eq ha (hB _ (List.getElem_mem hlt)) hp, Option.bind_some, List.drop_eq_getElem_cons hlt, List.any_cons]
    by_cases c : turnP a B[j] p = 0
    · rw [if_pos c, show (turnP a B[j] p == 0) = true from beq_iff_eq.mpr c]
      rfl
    · rw [if_neg c, show (turnP a B[j] p == 0) = false from beq_eq_false_iff_ne.mpr c, Bool.false_or, w64 (by omega) (by omega)]
      exact ih k (j + 1) (by omega) (by omega)
theorem fits_arith (d i k n : Nat) (h : (d + 1) * 1010 + 1 ≤ k + 1) (h2 : i + (d + 1) = n) (h3 : n ≤ 1000) : d * 1010 + 1 + i + 1 ≤ k := by
  rw [Nat.succ_mul] at h
  generalize d * 1010 = x at *
  omega
theorem ctFits_loop (L : List S34) (hL : allP L) (hlen : L.length ≤ 1000) (p : S34) (hp : pegP p.f0 p.f1) (d : Nat) : ∀ (k i : Nat), i + d = L.length → d * 1010 + 1 ≤ k →
    spec_ctFits.l0 k L L (L.length : Int) (i : Int) p.f0 p.f1 = some (!(fitAny L p d i)) := by
  induction d with
  | zero =>
    intro k i hi hk
    obtain ⟨k, rfl⟩ : ∃ m, k = m + 1 := ⟨k - 1, by omega⟩
    simp only [spec_ctFits.l0]
    rw [if_neg (by omega)]
    rfl
  | succ d ih =>
    intro k i hi hk
    obtain ⟨k, rfl⟩ : ∃ m, k = m + 1 := ⟨k - 1, by omega⟩
    have hlt : i < L.length := by omega
    have e1 := fits_arith d i k L.length hk hi hlen
    have hg : L.getD i z34 = L[i] := by rw [List.getD_eq_getElem?_getD, List.getElem?_eq_getElem hlt, Option.getD_some]
    have ht : (L.take i).length = i := by rw [List.length_take]; omega
    simp only [spec_ctFits.l0]
    rw [if_pos (by omega), if_pos (by omega), if_pos (by omega), if_pos (by omega), Option.bind_some, rdPegNat L i hlt, show ((i : Int)).toNat = i from rfl]
    have := ctFits_in L (L.length : Int) (i : Int) p L[i] hp (hL _ (List.getElem_mem hlt)) (L.take i) (fun q hq => hL q (List.mem_of_mem_take hq)) (by omega) (d * 1010 + 1) (!(fitAny L p d (i + 1))) (fun k hk => by
      rw [w64 (by omega) (by omega)]
      exact ih k (i + 1) (by omega) hk) i k 0 (by rw [ht]; omega) e1
    rw [show ((0 : Nat) : Int) = 0 from rfl, List.drop_zero] at this
    rw [this, fitAny, hg, Bool.not_or]
theorem ctFits_eq (k : Nat) (L : List S34) (hL : allP L) (hlen : L.length ≤ 1000) (p : S34) (hp : pegP p.f0 p.f1) (hk : L.length * 1010 + 1 ≤ k) : spec_ctFits.f k L p.f0 p.f1 = some (!(fitAny L p L.length 0)) := by
  unfold spec_ctFits.f
  have := ctFits_loop L hL hlen p hp L.length k 0 (by omega) hk
  simpa using this
theorem fit_pair (L : List S34) (p : S34) (n : Nat) (d : Nat) : ∀ j, j + d = n → fitAny (L.take n) p d j = pairAny L p d j := by
  induction d with
  | zero => intro j _; rfl
  | succ d ih =>
    intro j hj
    rw [fitAny, pairAny, ih (j + 1) (by omega)]
    have h1 : (L.take n).take j = L.take j := by rw [List.take_take, Nat.min_eq_left (by omega)]
    have h2 : (L.take n).getD j z34 = L.getD j z34 := by
      rw [List.getD_eq_getElem?_getD, List.getD_eq_getElem?_getD, List.getElem?_take_of_lt (by omega)]
    rw [h1, h2]
    congr 1
    congr 1
    funext c
    exact congrArg (· == (0 : Int)) (tri_cyc _ _ _ _ _ _).symm

theorem hasS_l2 (L : List S34) (hL : allP L) (hlen : L.length ≤ 100) (d : Nat) : ∀ (k i : Nat) (h : Bool), i + d = L.length → d + 200000 ≤ k →
    spec_HasThree.l2 k L h L (L.length : Int) (i : Int) = some (h || threeAny L d i, true) := by
  induction d with
  | zero =>
    intro k i h hi hk
    obtain ⟨k, rfl⟩ : ∃ m, k = m + 1 := ⟨k - 1, by omega⟩
    simp only [spec_HasThree.l2]
    rw [if_neg (by omega), threeAny, Bool.or_false]
  | succ d ih =>
    intro k i h hi hk
    obtain ⟨k, rfl⟩ : ∃ m, k = m + 1 := ⟨k - 1, by omega⟩
    have hlt : i < L.length := by omega
    have hg : L.getD i z34 = L[i] := by rw [List.getD_eq_getElem?_getD, List.getElem?_eq_getElem hlt, Option.getD_some]
    simp only [spec_HasThree.l2]
    rw [if_pos (by omega), if_pos (by omega), if_pos (by omega)]
    by_cases c : h = true
    · rw [if_pos c, w64 (by omega) (by omega), c]
      have := ih k (i + 1) true (by omega) (by omega)
      rw [Bool.true_or] at this
      rw [Bool.true_or]
      exact this
    · have ht : (L.take i).length = i := by rw [List.length_take]; omega
      rw [if_neg c, if_pos (by omega), rdPegNat L i hlt, show ((i : Int)).toNat = i from rfl, ctFits_eq k (L.take i) (fun q hq => hL q (List.mem_of_mem_take hq)) (by omega) L[i] (hL _ (List.getElem_mem hlt)) (by rw [ht]; omega), Option.bind_some, w64 (by omega) (by omega), Bool.not_not, ht, fit_pair L L[i] i i 0 (by omega), Bool.eq_false_iff.mpr c, Bool.false_or]
      have := ih k (i + 1) (pairAny L L[i] i 0) (by omega) (by omega)
      rw [threeAny, hg]
      exact this
theorem hasS_in (l : List S34) (x4 : Bool) (n : Int) (p : S34) (pre : List S34) (hpre : pre.length ≤ 1048576) (K0 : Nat) (R : Bool × Bool) (i : Int)
    (d : Nat) : ∀ (k j : Nat), j + d = pre.length → K0 + d + 1 ≤ k → ((pre.drop j).any (samePeg p) = false → ∀ k, K0 ≤ k → spec_HasThree.l0 k l x4 l n (wrap64 (i + 1)) = some R) →
    spec_HasThree.l1 k l x4 l n i pre (pre.length : Int) (j : Int) p.f0 p.f1 = some (if (pre.drop j).any (samePeg p) = true then (false, false) else R) := by
  induction d with
  | zero =>
    intro k j hj hk hc
    obtain ⟨k, rfl⟩ : ∃ m, k = m + 1 := ⟨k - 1, by omega⟩
    rw [List.drop_of_length_le (by omega)] at hc ⊢
    simp only [spec_HasThree.l1]
    rw [if_neg (by omega), hc rfl k (by omega)]
    rfl
  | succ d ih =>
    intro k j hj hk hc
    obtain ⟨k, rfl⟩ : ∃ m, k = m + 1 := ⟨k - 1, by omega⟩
    have hlt : j < pre.length := by omega
    simp only [spec_HasThree.l1]
    rw [List.drop_eq_getElem_cons hlt, List.any_cons] at hc ⊢
    rw [if_pos (by omega), if_pos (by omega), if_pos (by omega), rdPegNat pre j hlt, show (p.f0 == pre[j].f0 && p.f1 == pre[j].f1) = samePeg p pre[j] from rfl]
    by_cases c : samePeg p pre[j] = true
    · rw [if_pos c, c]
      rfl
    · rw [Bool.eq_false_iff.mpr c, Bool.false_or] at hc
      rw [if_neg c, w64 (by omega) (by omega), Bool.eq_false_iff.mpr c, Bool.false_or]
      exact ih k (j + 1) (by omega) (by omega) hc
theorem hasS_loop (L : Nat) (hL : L ≤ 50) (R : Bool × Bool) (K0 : Nat) (r : List S34) : ∀ (pre : List S34) (k : Nat), pre.length + r.length = L → K0 + r.length * (L + 2) + 1 ≤ k →
    ((r.all pegB && distFrom pre r) = true → ∀ k, K0 ≤ k → spec_HasThree.l2 k (pre ++ r) false (pre ++ r) ((pre ++ r).length : Int) 0 = some R) →
    spec_HasThree.l0 k (pre ++ r) false (pre ++ r) (L : Int) (pre.length : Int) = some (if (r.all pegB && distFrom pre r) = true then R else (false, false)) := by
  induction r with
  | nil =>
    intro pre k h hk hc
    obtain ⟨k, rfl⟩ : ∃ m, k = m + 1 := ⟨k - 1, by omega⟩
    simp only [spec_HasThree.l0]
    rw [if_neg (by simp at h; omega)]
    exact hc rfl k (by simp at hk; omega)
  | cons p r ih =>
    intro pre k h hk hc
    obtain ⟨k, rfl⟩ : ∃ m, k = m + 1 := ⟨k - 1, by omega⟩
    simp only [List.length_cons] at h hk
    rw [Nat.succ_mul] at hk
    simp only [spec_HasThree.l0]
    rw [if_pos (by omega), if_pos (by omega), if_pos (by simp; omega), rdPeg]
    simp only [pgIs_eq, Option.bind_some]
    by_cases c : pegP p.f0 p.f1
    · rw [if_pos (by simpa using c), if_pos (by simp; omega)]
      rw [Int.toNat_natCast, List.take_left]
      have hcont : pre.any (samePeg p) = false → ∀ k, K0 + r.length * (L + 2) + 1 ≤ k → spec_HasThree.l0 k (pre ++ p :: r) false (pre ++ p :: r) (L : Int) (wrap64 ((pre.length : Int) + 1)) = some (if (r.all pegB && distFrom (pre ++ [p]) r) = true then R else (false, false)) := by
        intro hany k hk
        have := ih (pre ++ [p]) k (by simp; omega) hk (fun hq k hk => by
          have := hc (by rw [List.all_cons, distFrom, hany, show pegB p = true from decide_eq_true c]; simpa using hq) k hk
          simpa using this)
        rw [w64 (by omega) (by omega)]
        simpa using this
      have := hasS_in (pre ++ p :: r) false (L : Int) p pre (by omega) (K0 + r.length * (L + 2) + 1) (if (r.all pegB && distFrom (pre ++ [p]) r) = true then R else (false, false)) (pre.length : Int) pre.length k 0 (by omega) (by omega) (by rw [List.drop_zero]; exact hcont)
      rw [show ((0 : Nat) : Int) = 0 from rfl] at this
      rw [this]
      simp only [List.drop_zero, List.all_cons, distFrom, pegB, c, decide_true, Bool.true_and, Option.some.injEq]
      generalize pre.any (samePeg p) = b1
      cases b1 <;> simp
    · rw [if_neg (by simpa using c)]
      simp [pegB, c]

/-- The one pure statement of the law FnExactHasThree. -/
def FnExactHasThree.Pure : Prop :=
  ∀ (l0 : List (S43)), l0.length ≤ maxLen → (∀ x ∈ l0, I64 x.f0 ∧ I64 x.f1) → ∃ k, laws_FnExactHasThree.f k l0 = some true

theorem hasThree_both (k : Nat) (hk : 300000000 ≤ k) (l : List S34) : ∃ r, spec_HasThree.f k l = some r ∧ impl_HasThree.f k l = some r := by
  unfold spec_HasThree.f impl_HasThree.f
  by_cases c : l.length > 50
  · rw [if_pos (by omega), if_pos (by omega)]
    exact ⟨_, rfl, rfl⟩
  · rw [if_neg (by omega), if_neg (by omega), arePegs_eq k l (by omega) (by omega), Option.bind_some]
    have hm : l.length * (l.length + 2) ≤ 50 * 52 := Nat.mul_le_mul (by omega) (by omega)
    have hpb : (l.all fun p => decide (pegP p.f0 p.f1)) = l.all pegB := rfl
    rw [hpb]
    by_cases hp : l.all pegB = true
    · have hall : allP l := fun q hq => by
        have := (List.all_eq_true.1 hp) q hq
        unfold pegB at this
        rwa [decide_eq_true_eq] at this
      have hspec := hasS_loop l.length (by omega) (threeAny l l.length 0, true) 250000 l [] k (by simp) (by omega) (fun _ k hk => by
        have := hasS_l2 l hall (by omega) l.length k 0 false (by omega) (by omega)
        rw [Bool.false_or] at this
        simpa using this)
      simp only [List.nil_append, List.length_nil] at hspec
      rw [show ((0 : Nat) : Int) = 0 from rfl] at hspec
      have hT := threes_l0 0 l (fun q hq => by
        have := hall q hq
        unfold pegP at this
        unfold inB
        omega) (by omega) l.length k 0 false (by omega) (by omega)
      rw [T0_any, Bool.false_or] at hT
      rw [show ((0 : Nat) : Int) = 0 from rfl] at hT
      have e : ((Go.Lib.compactUpTo (sortP l).toArray (sortP l).length).length : Int) = (l.length : Int) ↔ distFrom [] l = true := by
        rw [distFrom_iff, ← setP_length]
        unfold setP
        simp
        omega
      have himpl : ((impl_sorted.f l).bind fun t => (slices_Compact_impl_Peg_impl_Peg.f t).bind fun t => if (t.length : Int) = (l.length : Int) then (impl_threes.f k l false).bind fun t => some (t, true) else some (false, false)) = some (if distFrom [] l = true then (threeAny l l.length 0, true) else (false, false)) := by
        rw [sorted_eq l (by omega), Option.bind_some]
        unfold slices_Compact_impl_Peg_impl_Peg.f
        rw [if_pos (by rw [sortP_length]; omega), Option.bind_some]
        by_cases hd : distFrom [] l = true
        · rw [if_pos hd, if_pos (e.2 hd)]
          unfold impl_threes.f
          rw [hT, Option.bind_some]
        · rw [if_neg hd, if_neg (fun h => hd (e.1 h))]
      rw [hspec, if_pos hp, hp, Bool.true_and]
      exact ⟨_, rfl, himpl⟩
    · have hp' : l.all pegB = false := Bool.eq_false_iff.mpr hp
      have hspec := hasS_loop l.length (by omega) (false, false) 250000 l [] k (by simp) (by omega) (fun h => by
        rw [hp', Bool.false_and] at h
        exact absurd h (by decide))
      simp only [List.nil_append, List.length_nil, ite_self] at hspec
      rw [show ((0 : Nat) : Int) = 0 from rfl] at hspec
      rw [if_neg hp, hspec]
      exact ⟨_, rfl, rfl⟩
theorem FnExactHasThree : FnExactHasThree.Pure := by
  intro l hl _
  obtain ⟨k, hk⟩ : ∃ k : Nat, 300000000 ≤ k := ⟨300000000, Nat.le_refl _⟩
  refine ⟨k + 1, ?_⟩
  unfold laws_FnExactHasThree.f
  rw [szPegS_eq l hl, Option.bind_some]
  by_cases c : 1048576 < l.length
  · rw [if_pos c, if_pos (by decide)]
  · rw [if_neg c, if_neg (by omega), toPegS_eq (k + 1) l (by omega) (by omega), Option.bind_some]
    obtain ⟨⟨b, g⟩, h1, h2⟩ := hasThree_both (k + 1) (by omega) (l.map convPeg)
    rw [h1, Option.bind_some, Option.bind_some, h2, Option.bind_some, if_neg (by simp)]
    simp only [laws_FnExactHasThree.j0]
    rw [if_neg (by simp), toPegS_eq k l (by omega) (by omega), Option.bind_some, eqPegS_self k _ (by simp; omega) (by simp; omega), Option.bind_some, if_pos rfl]

end Go.Proofs.Ytaclbccjcjdbpaa.Pure
