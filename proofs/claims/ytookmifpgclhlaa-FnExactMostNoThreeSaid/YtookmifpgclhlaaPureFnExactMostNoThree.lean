/- The program's MostNoThree returns what the reference's returns, for all arguments. No condition. -/
import Derived.Test.YtookmifpgclhlaaMNx0
import Derived.Test.YtookmifpgclhlaaMNx1
import Derived.Test.YtookmifpgclhlaaMNx2
import Derived.Test.YtookmifpgclhlaaMNx3
import Derived.Test.YtookmifpgclhlaaMNx4
import Derived.Test.YtookmifpgclhlaaMNx5
import Derived.Test.YtookmifpgclhlaaMNx6
import Derived.Test.YtookmifpgclhlaaMNx7
import Derived.Test.YtookmifpgclhlaaMNx10
import Derived.Test.YtookmifpgclhlaaMNx11
import Derived.Test.YtookmifpgclhlaaV
namespace Go.Proofs.Ytookmifpgclhlaa.Pure
open Go.RowKit Go.Proofs.YtookmifpgclhlaaV Go.Proofs.Ytookmifpgclhlaa.MN Go.Proofs.YtookmifpgclhlaaW.PrintWords Go.Proofs.YtookmifpgclhlaaW.PrintLast Go.Proofs.YtookmifpgclhlaaW.PrintMore

theorem in_eq (a lo hi : Int) : spec_l1In.f a lo hi = some (decide (lo ≤ a ∧ a ≤ hi)) := by
  unfold spec_l1In.f
  by_cases h : lo ≤ a
  · rw [if_pos h]; simp [h]
  · rw [if_neg h]; simp [h]

theorem within_eq (a lo hi : Int) : impl_within.f a lo hi = some (decide (lo ≤ a ∧ a ≤ hi)) := by
  unfold impl_within.f
  by_cases h : lo ≤ a
  · rw [if_pos h]; simp [h]
  · rw [if_neg h]; simp [h]

theorem w64 {x : Int} (h0 : -9223372036854775808 ≤ x) (h1 : x ≤ 9223372036854775807) : wrap64 x = x := by
  unfold wrap64
  omega

theorem mul_bd {x y : Int} (A B : Nat) (hx : -(A : Int) ≤ x ∧ x ≤ A) (hy : -(B : Int) ≤ y ∧ y ≤ B) : -((A * B : Nat) : Int) ≤ x * y ∧ x * y ≤ ((A * B : Nat) : Int) := by
  have h1 : x.natAbs ≤ A := by omega
  have h2 : y.natAbs ≤ B := by omega
  have h3 := Nat.mul_le_mul h1 h2
  rw [← Int.natAbs_mul] at h3
  omega

/-- A peg's numbers. -/
def pegP (x y : Int) : Prop := (-40 ≤ x ∧ x ≤ 40) ∧ (-40 ≤ y ∧ y ≤ 40)
instance (x y : Int) : Decidable (pegP x y) := by unfold pegP; infer_instance

/-- Twice the area of three points. -/
def tri (ax ay bx by_ cx cy : Int) : Int := (bx - ax) * (cy - ay) - (by_ - ay) * (cx - ax)

theorem pgTurn_eq (M : Nat) (hM : M ≤ 1000000) {ax ay bx by_ cx cy : Int} (h1 : -(M : Int) ≤ ax ∧ ax ≤ M) (h2 : -(M : Int) ≤ ay ∧ ay ≤ M) (h3 : -(M : Int) ≤ bx ∧ bx ≤ M) (h4 : -(M : Int) ≤ by_ ∧ by_ ≤ M) (h5 : -(M : Int) ≤ cx ∧ cx ≤ M) (h6 : -(M : Int) ≤ cy ∧ cy ≤ M) :
    spec_pgTurn.f ax ay bx by_ cx cy = some (tri ax ay bx by_ cx cy) := by
  unfold spec_pgTurn.f tri
  rw [w64 (x := bx - ax) (by omega) (by omega), w64 (x := cy - ay) (by omega) (by omega), w64 (x := by_ - ay) (by omega) (by omega), w64 (x := cx - ax) (by omega) (by omega)]
  have q1 := mul_bd 2000000 2000000 (x := bx - ax) (y := cy - ay) (by omega) (by omega)
  have q2 := mul_bd 2000000 2000000 (x := by_ - ay) (y := cx - ax) (by omega) (by omega)
  rw [w64 (x := (bx - ax) * (cy - ay)) (by omega) (by omega), w64 (x := (by_ - ay) * (cx - ax)) (by omega) (by omega), w64 (by omega) (by omega)]

theorem turn_eq (M : Nat) (hM : M ≤ 1000000) {ax ay bx by_ cx cy : Int} (h1 : -(M : Int) ≤ ax ∧ ax ≤ M) (h2 : -(M : Int) ≤ ay ∧ ay ≤ M) (h3 : -(M : Int) ≤ bx ∧ bx ≤ M) (h4 : -(M : Int) ≤ by_ ∧ by_ ≤ M) (h5 : -(M : Int) ≤ cx ∧ cx ≤ M) (h6 : -(M : Int) ≤ cy ∧ cy ≤ M) :
    impl_turn.f ax ay bx by_ cx cy = some (tri ax ay bx by_ cx cy) := by
  unfold impl_turn.f impl_Peg_less.f impl_cross.f tri
  simp only [Option.bind_some]
  rw [w64 (x := bx - ax) (by omega) (by omega), w64 (x := cy - ay) (by omega) (by omega), w64 (x := by_ - ay) (by omega) (by omega), w64 (x := cx - ax) (by omega) (by omega)]
  have q1 := mul_bd 2000000 2000000 (x := bx - ax) (y := cy - ay) (by omega) (by omega)
  have q2 := mul_bd 2000000 2000000 (x := by_ - ay) (y := cx - ax) (by omega) (by omega)
  rw [w64 (x := (bx - ax) * (cy - ay)) (by omega) (by omega), w64 (x := (by_ - ay) * (cx - ax)) (by omega) (by omega), w64 (by omega) (by omega)]

theorem ctBoard_eq (w h m : Int) : spec_ctBoard.f w h m = some (decide ((1 ≤ w ∧ w ≤ m) ∧ (1 ≤ h ∧ h ≤ m))) := by
  unfold spec_ctBoard.f
  simp only [in_eq, Option.bind_some]
  by_cases c : 1 ≤ w ∧ w ≤ m
  · simp [c]
  · simp [c]

theorem isBoard_eq (w h m : Int) : impl_isBoard.f w h m = some (decide ((1 ≤ w ∧ w ≤ m) ∧ (1 ≤ h ∧ h ≤ m))) := by
  unfold impl_isBoard.f
  simp only [within_eq, Option.bind_some]
  by_cases c : 1 ≤ w ∧ w ≤ m
  · simp [c]
  · simp [c]

/-- The pegs of a board from column x on, e columns. -/
def rowsFrom (h x e : Nat) : List S30 := (List.range' x e).flatMap fun (x : Nat) => (List.range' 0 h).map fun (y : Nat) => (⟨(x : Int), (y : Int)⟩ : S30)
def colFrom (x y d : Nat) : List S30 := (List.range' y d).map fun (y : Nat) => (⟨(x : Int), (y : Int)⟩ : S30)
theorem colFrom_succ (x y d : Nat) : colFrom x y (d + 1) = (⟨(x : Int), (y : Int)⟩ : S30) :: colFrom x (y + 1) d := by
  simp [colFrom, List.range'_succ]
theorem rowsFrom_succ (h x e : Nat) : rowsFrom h x (e + 1) = colFrom x 0 h ++ rowsFrom h (x + 1) e := by
  simp [rowsFrom, colFrom, List.range'_succ]
theorem rowsFrom_length (h x e : Nat) : (rowsFrom h x e).length = e * h := by
  induction e generalizing x with
  | zero => simp [rowsFrom]
  | succ e ih => rw [rowsFrom_succ, List.length_append, ih, Nat.succ_mul]; simp [colFrom]; omega

theorem ctPegs_in (w h : Nat) (hh : h ≤ 100) (x : Nat) (K0 : Nat) (R : List S30) (B : Nat) (hB : B ≤ 100000)
    (hc : ∀ k acc, K0 ≤ k → acc.length ≤ B → spec_ctPegs.l0 k (w : Int) (h : Int) acc (wrap64 ((x : Int) + 1)) = some (acc ++ R)) (d : Nat) : ∀ (k y : Nat) (acc : List S30), y + d = h → K0 + d + 1 ≤ k → acc.length + d ≤ B →
    spec_ctPegs.l1 k (w : Int) (h : Int) acc (x : Int) (y : Int) = some (acc ++ colFrom x y d ++ R) := by
  induction d with
  | zero =>
    intro k y acc hy hk hl
    obtain ⟨k, rfl⟩ : ∃ m, k = m + 1 := ⟨k - 1, by omega⟩
    simp only [spec_ctPegs.l1]
    rw [if_neg (by omega), hc k acc (by omega) (by omega)]
    simp [colFrom]
  | succ d ih =>
    intro k y acc hy hk hl
    obtain ⟨k, rfl⟩ : ∃ m, k = m + 1 := ⟨k - 1, by omega⟩
    simp only [spec_ctPegs.l1]
    rw [if_pos (by omega), if_pos (by omega), w64 (by omega) (by omega)]
    have := ih k (y + 1) (acc ++ [⟨(x : Int), (y : Int)⟩]) (by omega) (by omega) (by simp; omega)
    rw [show ((y : Int) + 1) = ((y + 1 : Nat) : Int) by omega, this, colFrom_succ]
    simp
theorem ctPegs_loop (w h : Nat) (hw : w ≤ 100) (hh : h ≤ 100) (e : Nat) : ∀ (k x : Nat) (acc : List S30), x + e = w → e * (h + 2) + 1 ≤ k → acc.length + e * h ≤ 20000 →
    spec_ctPegs.l0 k (w : Int) (h : Int) acc (x : Int) = some (acc ++ rowsFrom h x e) := by
  induction e with
  | zero =>
    intro k x acc hx hk hl
    obtain ⟨k, rfl⟩ : ∃ m, k = m + 1 := ⟨k - 1, by omega⟩
    simp only [spec_ctPegs.l0]
    rw [if_neg (by omega)]
    simp [rowsFrom]
  | succ e ih =>
    intro k x acc hx hk hl
    obtain ⟨k, rfl⟩ : ∃ m, k = m + 1 := ⟨k - 1, by omega⟩
    rw [Nat.succ_mul] at hk hl
    simp only [spec_ctPegs.l0]
    rw [if_pos (by omega)]
    have := ctPegs_in w h hh x (e * (h + 2) + 1) (rowsFrom h (x + 1) e) (acc.length + h) (by omega) (fun k' acc' hk' hl' => by
      rw [w64 (by omega) (by omega)]
      exact ih k' (x + 1) acc' (by omega) hk' (by omega)) h k 0 acc (by omega) (by omega) (by omega)
    rw [show ((0 : Nat) : Int) = 0 from rfl] at this
    rw [this, rowsFrom_succ, List.append_assoc]
theorem ctPegs_eq (k w h : Nat) (hw : w ≤ 100) (hh : h ≤ 100) (hk : 10300 ≤ k) : spec_ctPegs.f k (w : Int) (h : Int) = some (rowsFrom h 0 w) := by
  unfold spec_ctPegs.f
  have h1 : w * (h + 2) ≤ 100 * 102 := Nat.mul_le_mul hw (by omega)
  have h2 : w * h ≤ 100 * 100 := Nat.mul_le_mul hw hh
  have := ctPegs_loop w h hw hh w k 0 [] (by omega) (by omega) (by simp; omega)
  rw [show ((0 : Nat) : Int) = 0 from rfl] at this
  rw [this]
  simp

theorem board_in (w h : Nat) (hh : h ≤ 100) (x : Nat) (K0 : Nat) (R : List S30) (B : Nat) (hB : B ≤ 100000)
    (hc : ∀ k acc, K0 ≤ k → acc.length ≤ B → impl_board.l0 k (h : Int) acc (w : Int) (wrap64 ((x : Int) + 1)) = some (acc ++ R)) (d : Nat) : ∀ (k y : Nat) (acc : List S30), y + d = h → K0 + d + 1 ≤ k → acc.length + d ≤ B →
    impl_board.l1 k (h : Int) acc (x : Int) (w : Int) (x : Int) (h : Int) (y : Int) = some (acc ++ colFrom x y d ++ R) := by
  induction d with
  | zero =>
    intro k y acc hy hk hl
    obtain ⟨k, rfl⟩ : ∃ m, k = m + 1 := ⟨k - 1, by omega⟩
    simp only [impl_board.l1]
    rw [if_neg (by omega), hc k acc (by omega) (by omega)]
    simp [colFrom]
  | succ d ih =>
    intro k y acc hy hk hl
    obtain ⟨k, rfl⟩ : ∃ m, k = m + 1 := ⟨k - 1, by omega⟩
    simp only [impl_board.l1]
    rw [if_pos (by omega), if_pos (by omega), w64 (by omega) (by omega)]
    have := ih k (y + 1) (acc ++ [⟨(x : Int), (y : Int)⟩]) (by omega) (by omega) (by simp; omega)
    rw [show ((y : Int) + 1) = ((y + 1 : Nat) : Int) by omega, this, colFrom_succ]
    simp
theorem board_loop (w h : Nat) (hw : w ≤ 100) (hh : h ≤ 100) (e : Nat) : ∀ (k x : Nat) (acc : List S30), x + e = w → e * (h + 2) + 1 ≤ k → acc.length + e * h ≤ 20000 →
    impl_board.l0 k (h : Int) acc (w : Int) (x : Int) = some (acc ++ rowsFrom h x e) := by
  induction e with
  | zero =>
    intro k x acc hx hk hl
    obtain ⟨k, rfl⟩ : ∃ m, k = m + 1 := ⟨k - 1, by omega⟩
    simp only [impl_board.l0]
    rw [if_neg (by omega)]
    simp [rowsFrom]
  | succ e ih =>
    intro k x acc hx hk hl
    obtain ⟨k, rfl⟩ : ∃ m, k = m + 1 := ⟨k - 1, by omega⟩
    rw [Nat.succ_mul] at hk hl
    simp only [impl_board.l0]
    rw [if_pos (by omega)]
    have := board_in w h hh x (e * (h + 2) + 1) (rowsFrom h (x + 1) e) (acc.length + h) (by omega) (fun k' acc' hk' hl' => by
      rw [w64 (by omega) (by omega)]
      exact ih k' (x + 1) acc' (by omega) hk' (by omega)) h k 0 acc (by omega) (by omega) (by omega)
    rw [show ((0 : Nat) : Int) = 0 from rfl] at this
    rw [this, rowsFrom_succ, List.append_assoc]
theorem board_eq (k w h : Nat) (hw : w ≤ 100) (hh : h ≤ 100) (hk : 10300 ≤ k) : impl_board.f k (w : Int) (h : Int) = some (rowsFrom h 0 w) := by
  unfold impl_board.f
  have h1 : w * (h + 2) ≤ 100 * 102 := Nat.mul_le_mul hw (by omega)
  have h2 : w * h ≤ 100 * 100 := Nat.mul_le_mul hw hh
  have := board_loop w h hw hh w k 0 [] (by omega) (by omega) (by simp; omega)
  rw [show ((0 : Nat) : Int) = 0 from rfl] at this
  rw [this]
  simp

theorem rows_bound (h x e M : Nat) (hM : x + e ≤ M) (hh : h ≤ M) : ∀ p ∈ rowsFrom h x e, (0 ≤ p.f0 ∧ p.f0 < M) ∧ (0 ≤ p.f1 ∧ p.f1 < M) := by
  intro p hp
  unfold rowsFrom at hp
  rw [List.mem_flatMap] at hp
  obtain ⟨a, ha, hp⟩ := hp
  rw [List.mem_map] at hp
  obtain ⟨b, hb, rfl⟩ := hp
  rw [List.mem_range'_1] at ha hb
  refine ⟨⟨?_, ?_⟩, ⟨?_, ?_⟩⟩ <;> simp <;> omega

theorem rdPegNat (l : List S30) (i : Nat) (h : i < l.length) : rd_T30 l (i : Int) = l[i] := by
  unfold rd_T30
  simp [List.getD_eq_getElem?_getD, List.getElem?_eq_getElem h]

def allP (l : List S30) : Prop := ∀ q ∈ l, pegP q.f0 q.f1

/-- Which way three pegs turn. -/
def turnP (a b c : S30) : Int := tri a.f0 a.f1 b.f0 b.f1 c.f0 c.f1
theorem pgTurnP_eq {a b c : S30} (ha : pegP a.f0 a.f1) (hb : pegP b.f0 b.f1) (hc : pegP c.f0 c.f1) : spec_pgTurn.f a.f0 a.f1 b.f0 b.f1 c.f0 c.f1 = some (turnP a b c) :=
  pgTurn_eq 40 (by omega) ha.1 ha.2 hb.1 hb.2 hc.1 hc.2
theorem turnP_eq {a b c : S30} (ha : pegP a.f0 a.f1) (hb : pegP b.f0 b.f1) (hc : pegP c.f0 c.f1) : impl_turn.f a.f0 a.f1 b.f0 b.f1 c.f0 c.f1 = some (turnP a b c) :=
  turn_eq 40 (by omega) ha.1 ha.2 hb.1 hb.2 hc.1 hc.2

theorem tri_cyc (ax ay bx by_ px py : Int) : tri px py ax ay bx by_ = tri ax ay bx by_ px py := by
  unfold tri
  grind

/-- Do two of the first ones stand in a line with p? -/
def pairAny (L : List S30) (p : S30) : Nat → Nat → Bool
  | 0, _ => false
  | d + 1, j => (L.take j).any (fun c => turnP p (L.getD j z30) c == 0) || pairAny L p d (j + 1)
def threeAny (L : List S30) : Nat → Nat → Bool
  | 0, _ => false
  | d + 1, i => pairAny L (L.getD i z30) i 0 || threeAny L d (i + 1)

/-- The same, as the reference looks for it. -/
def fitAny (L : List S30) (p : S30) : Nat → Nat → Bool
  | 0, _ => false
  | d + 1, i => (L.take i).any (fun b => turnP (L.getD i z30) b p == 0) || fitAny L p d (i + 1)
theorem ctFits_in (L : List S30) (n i : Int) (p a : S30) (hp : pegP p.f0 p.f1) (ha : pegP a.f0 a.f1) (B : List S30) (hB : allP B) (hlen : B.length ≤ 100000) (K0 : Nat) (R : Bool)
    (hc : ∀ k, K0 ≤ k → spec_ctFits.l0 k L L n (wrap64 (i + 1)) p.f0 p.f1 = some R) (d : Nat) : ∀ (k j : Nat), j + d = B.length → K0 + d + 1 ≤ k →
    spec_ctFits.l1 k L L n i B (B.length : Int) (j : Int) p.f0 p.f1 a.f0 a.f1 = some (!((B.drop j).any (fun b => turnP a b p == 0)) && R) := by
  induction d with
  | zero =>
    intro k j hj hk
    obtain ⟨k, rfl⟩ : ∃ m, k = m + 1 := ⟨k - 1, by omega⟩
    simp only [spec_ctFits.l1]
    rw [if_neg (by omega), hc k (by omega), List.drop_of_length_le (by omega)]
    rfl
  | succ d ih =>
    intro k j hj hk
    obtain ⟨k, rfl⟩ : ∃ m, k = m + 1 := ⟨k - 1, by omega⟩
    have hlt : j < B.length := by omega
    simp only [spec_ctFits.l1]
    rw [if_pos (by omega), if_pos (by omega), if_pos (by omega), rdPegNat B j hlt, pgTurnP_eq ha (hB _ (List.getElem_mem hlt)) hp, Option.bind_some, List.drop_eq_getElem_cons hlt, List.any_cons]
    by_cases c : turnP a B[j] p = 0
    · rw [if_pos c, show (turnP a B[j] p == 0) = true from beq_iff_eq.mpr c]
      rfl
    · rw [if_neg c, show (turnP a B[j] p == 0) = false from beq_eq_false_iff_ne.mpr c, Bool.false_or, w64 (by omega) (by omega)]
      exact ih k (j + 1) (by omega) (by omega)
theorem fits_arith (d i k n : Nat) (h : (d + 1) * 1010 + 1 ≤ k + 1) (h2 : i + (d + 1) = n) (h3 : n ≤ 1000) : d * 1010 + 1 + i + 1 ≤ k := by
  rw [Nat.succ_mul] at h
  generalize d * 1010 = x at *
  omega
theorem ctFits_loop (L : List S30) (hL : allP L) (hlen : L.length ≤ 1000) (p : S30) (hp : pegP p.f0 p.f1) (d : Nat) : ∀ (k i : Nat), i + d = L.length → d * 1010 + 1 ≤ k →
    spec_ctFits.l0 k L L (L.length : Int) (i : Int) p.f0 p.f1 = some (!(fitAny L p d i)) := by
  induction d with
  | zero =>
    intro k i hi hk
    obtain ⟨k, rfl⟩ : ∃ m, k = m + 1 := ⟨k - 1, by omega⟩
    simp only [spec_ctFits.l0]
    rw [if_neg (by omega)]
    rfl
  | succ d ih =>
    intro k i hi hk
    obtain ⟨k, rfl⟩ : ∃ m, k = m + 1 := ⟨k - 1, by omega⟩
    have hlt : i < L.length := by omega
    have e1 := fits_arith d i k L.length hk hi hlen
    have hg : L.getD i z30 = L[i] := by rw [List.getD_eq_getElem?_getD, List.getElem?_eq_getElem hlt, Option.getD_some]
    have ht : (L.take i).length = i := by rw [List.length_take]; omega
    simp only [spec_ctFits.l0]
    rw [if_pos (by omega), if_pos (by omega), if_pos (by omega), if_pos (by omega), Option.bind_some, rdPegNat L i hlt, show ((i : Int)).toNat = i from rfl]
    have := ctFits_in L (L.length : Int) (i : Int) p L[i] hp (hL _ (List.getElem_mem hlt)) (L.take i) (fun q hq => hL q (List.mem_of_mem_take hq)) (by omega) (d * 1010 + 1) (!(fitAny L p d (i + 1))) (fun k hk => by
      rw [w64 (by omega) (by omega)]
      exact ih k (i + 1) (by omega) hk) i k 0 (by rw [ht]; omega) e1
    rw [show ((0 : Nat) : Int) = 0 from rfl, List.drop_zero] at this
    rw [this, fitAny, hg, Bool.not_or]
theorem ctFits_eq (k : Nat) (L : List S30) (hL : allP L) (hlen : L.length ≤ 1000) (p : S30) (hp : pegP p.f0 p.f1) (hk : L.length * 1010 + 1 ≤ k) : spec_ctFits.f k L p.f0 p.f1 = some (!(fitAny L p L.length 0)) := by
  unfold spec_ctFits.f
  have := ctFits_loop L hL hlen p hp L.length k 0 (by omega) hk
  simpa using this
theorem fit_pair (L : List S30) (p : S30) (n : Nat) (d : Nat) : ∀ j, j + d = n → fitAny (L.take n) p d j = pairAny L p d j := by
  induction d with
  | zero => intro j _; rfl
  | succ d ih =>
    intro j hj
    rw [fitAny, pairAny, ih (j + 1) (by omega)]
    have h1 : (L.take n).take j = L.take j := by rw [List.take_take, Nat.min_eq_left (by omega)]
    have h2 : (L.take n).getD j z30 = L.getD j z30 := by
      rw [List.getD_eq_getElem?_getD, List.getD_eq_getElem?_getD, List.getElem?_take_of_lt (by omega)]
    rw [h1, h2]
    congr 1
    congr 1
    funext c
    exact congrArg (· == (0 : Int)) (tri_cyc _ _ _ _ _ _).symm

/-- The longest way to go on from some with the pegs that are left, no three in a line: the first such. -/
def noP : List S30 → List S30 → List S30 → List S30
  | [], _, best => best
  | p :: r, s, best => if fitAny s p s.length 0 = true then noP r s best else noP r s (if (noP r (s ++ [p]) (s ++ [p])).length > best.length then noP r (s ++ [p]) (s ++ [p]) else best)
theorem noP_length (L : List S30) (M : Nat) : ∀ (s best : List S30), best.length ≤ M → s.length + L.length ≤ M → (noP L s best).length ≤ M := by
  induction L with
  | nil => intro s best h _; exact h
  | cons p r ih =>
    intro s best h hs
    simp only [List.length_cons] at hs
    unfold noP
    by_cases c : fitAny s p s.length 0 = true
    · rw [if_pos c]
      exact ih s best h (by omega)
    · rw [if_neg c]
      have h1 := ih (s ++ [p]) (s ++ [p]) (by simp; omega) (by simp; omega)
      by_cases e : (noP r (s ++ [p]) (s ++ [p])).length > best.length
      · rw [if_pos e]
        exact ih s _ h1 (by omega)
      · rw [if_neg e]
        exact ih s _ h (by omega)

theorem ctLook_loop (d : Nat) : ∀ (k i : Nat) (L s best : List S30), i + d = L.length → L.length ≤ 50 → d * 2 + 60000 ≤ k → allP L → allP s → s.length + d ≤ 50 → best.length ≤ 50 →
    spec_ctLook.l0 k L s best (i : Int) = some (noP (L.drop i) s best) := by
  induction d with
  | zero =>
    intro k i L s best hi hl hk hL hs hn hb
    obtain ⟨k, rfl⟩ : ∃ m, k = m + 1 := ⟨k - 1, by omega⟩
    simp only [spec_ctLook.l0]
    rw [if_neg (by omega), List.drop_of_length_le (by omega)]
    rfl
  | succ d ih =>
    intro k i L s best hi hl hk hL hs hn hb
    obtain ⟨k, rfl⟩ : ∃ m, k = m + 1 := ⟨k - 1, by omega⟩
    have hlt : i < L.length := by omega
    have hp : pegP L[i].f0 L[i].f1 := hL _ (List.getElem_mem hlt)
    have hs' : allP (s ++ [L[i]]) := fun q hq => by
      rw [List.mem_append, List.mem_singleton] at hq
      rcases hq with hq | hq
      · exact hs q hq
      · rw [hq]; exact hp
    have hlen : (noP (L.drop (i + 1)) (s ++ [L[i]]) (s ++ [L[i]])).length ≤ 50 := noP_length _ 50 _ _ (by simp; omega) (by simp; omega)
    have hf : spec_ctLook.f k L (s ++ [L[i]]) ((i + 1 : Nat) : Int) = some (noP (L.drop (i + 1)) (s ++ [L[i]]) (s ++ [L[i]])) := by
      obtain ⟨k, rfl⟩ : ∃ m, k = m + 1 := ⟨k - 1, by omega⟩
      simp only [spec_ctLook.f]
      simp only [Option.bind_some, List.nil_append, List.length_nil]
      rw [if_pos (by simp; omega)]
      exact ih k (i + 1) L _ _ (by omega) hl (by omega) hL hs' (by simp; omega) (by simp; omega)
    simp only [spec_ctLook.l0]
    rw [if_pos (by omega), if_pos (by omega), rdPegNat L i hlt, ctFits_eq k s hs (by omega) L[i] hp (by omega), Option.bind_some, w64 (by omega) (by omega), show (i : Int) + 1 = ((i + 1 : Nat) : Int) by omega, List.drop_eq_getElem_cons hlt, noP]
    by_cases c : fitAny s L[i] s.length 0 = true
    · rw [c, if_neg (by decide), if_pos rfl]
      exact ih k (i + 1) L s best (by omega) hl (by omega) hL hs (by omega) hb
    · rw [Bool.eq_false_iff.mpr c, if_pos (by decide), if_neg (by decide)]
      simp only [Option.bind_some, List.nil_append, List.length_nil]
      rw [if_pos (by omega), if_pos (by simp; omega), hf, Option.bind_some]
      by_cases e : (noP (L.drop (i + 1)) (s ++ [L[i]]) (s ++ [L[i]])).length > best.length
      · rw [if_pos (by omega), if_pos e]
        exact ih k (i + 1) L s _ (by omega) hl (by omega) hL hs (by omega) hlen
      · rw [if_neg (by omega), if_neg e]
        exact ih k (i + 1) L s _ (by omega) hl (by omega) hL hs (by omega) hb
theorem ctLook_eq (k : Nat) (L : List S30) (hL : allP L) (hlen : L.length ≤ 50) (hk : 70000 ≤ k) : spec_ctLook.f k L [] 0 = some (noP L [] []) := by
  obtain ⟨k, rfl⟩ : ∃ m, k = m + 1 := ⟨k - 1, by omega⟩
  simp only [spec_ctLook.f]
  simp only [Option.bind_some, List.nil_append, List.length_nil]
  rw [if_pos (by omega)]
  have := ctLook_loop L.length k 0 L [] [] (by omega) hlen (by omega) hL (fun q hq => absurd hq (by simp)) (by simp; omega) (by simp)
  simpa using this

theorem noThree_l2 (s l best : List S30) (x6 x16 x17 x24 n : Int) (p a : S30) (hp : pegP p.f0 p.f1) (ha : pegP a.f0 a.f1) (T : List S30) (hT : allP T) (hlen : T.length ≤ 1000) (K0 : Nat) (R : Bool → List S30)
    (hc : ∀ (fl : Bool) (k : Nat), K0 ≤ k → impl_noThree.l1 k s l best x6 fl l x16 x17 s n (wrap64 (x24 + 1)) p.f0 p.f1 = some (R fl)) (d : Nat) : ∀ (k j : Nat) (fl : Bool), j + d = T.length → K0 + d + 1 ≤ k →
    impl_noThree.l2 k s l best x6 fl l x16 x17 s n x24 T (T.length : Int) (j : Int) p.f0 p.f1 a.f0 a.f1 = some (R (fl && !((T.drop j).any (fun b => turnP a b p == 0)))) := by
  induction d with
  | zero =>
    intro k j fl hj hk
    obtain ⟨k, rfl⟩ : ∃ m, k = m + 1 := ⟨k - 1, by omega⟩
    simp only [impl_noThree.l2]
    rw [if_neg (by omega), hc fl k (by omega), List.drop_of_length_le (by omega), List.any_nil, Bool.not_false, Bool.and_true]
  | succ d ih =>
    intro k j fl hj hk
    obtain ⟨k, rfl⟩ : ∃ m, k = m + 1 := ⟨k - 1, by omega⟩
    have hlt : j < T.length := by omega
    simp only [impl_noThree.l2]
    rw [if_pos (by omega), if_pos (by omega), if_pos (by omega), rdPegNat T j hlt, turnP_eq ha (hT _ (List.getElem_mem hlt)) hp, Option.bind_some, List.drop_eq_getElem_cons hlt, List.any_cons, w64 (by omega) (by omega)]
    cases fl with
    | false =>
      rw [if_neg (by decide), Bool.false_and]
      have := ih k (j + 1) false (by omega) (by omega)
      rw [Bool.false_and] at this
      exact this
    | true =>
      rw [if_pos rfl, Bool.true_and, Bool.not_or]
      exact ih k (j + 1) (turnP a T[j] p != 0) (by omega) (by omega)
theorem noThree_l1 (s l best : List S30) (hs : allP s) (hsl : s.length ≤ 50) (x6 x16 x17 : Int) (p : S30) (hp : pegP p.f0 p.f1) (K0 : Nat) (R : Bool → List S30)
    (hc : ∀ (fl : Bool) (k : Nat), K0 ≤ k → impl_noThree.l1 k s l best x6 fl l x16 x17 s (s.length : Int) (s.length : Int) p.f0 p.f1 = some (R fl)) (d : Nat) : ∀ (k i : Nat) (fl : Bool), i + d = s.length → K0 + d * 60 ≤ k →
    impl_noThree.l1 k s l best x6 fl l x16 x17 s (s.length : Int) (i : Int) p.f0 p.f1 = some (R (fl && !(fitAny s p d i))) := by
  induction d with
  | zero =>
    intro k i fl hi hk
    rw [show i = s.length by omega, hc fl k (by omega), fitAny, Bool.not_false, Bool.and_true]
  | succ d ih =>
    intro k i fl hi hk
    obtain ⟨k, rfl⟩ : ∃ m, k = m + 1 := ⟨k - 1, by omega⟩
    have hlt : i < s.length := by omega
    have hg : s.getD i z30 = s[i] := by rw [List.getD_eq_getElem?_getD, List.getElem?_eq_getElem hlt, Option.getD_some]
    have ht : (s.take i).length = i := by rw [List.length_take]; omega
    simp only [impl_noThree.l1]
    rw [if_pos (by omega), if_pos (by omega), if_pos (by omega), if_pos (by omega), Option.bind_some, rdPegNat s i hlt, show ((i : Int)).toNat = i from rfl]
    have := noThree_l2 s l best x6 x16 x17 (i : Int) (s.length : Int) p s[i] hp (hs _ (List.getElem_mem hlt)) (s.take i) (fun q hq => hs q (List.mem_of_mem_take hq)) (by omega) (K0 + d * 60) (fun f => R (f && !(fitAny s p d (i + 1)))) (fun f k hk => by
      rw [w64 (by omega) (by omega)]
      exact ih k (i + 1) f (by omega) hk) i k 0 fl (by omega) (by omega)
    rw [show ((0 : Nat) : Int) = 0 from rfl, List.drop_zero] at this
    rw [this, fitAny, hg, Bool.not_or, Bool.and_assoc]
theorem noThree_loop (c : Nat) (hc : 4000 ≤ c) (d : Nat) : ∀ (k i : Nat) (l s best : List S30), i + d = l.length → l.length ≤ 50 → d * c + 5000 ≤ k → allP l → allP s → s.length + d ≤ 50 → best.length ≤ 50 →
    impl_noThree.l0 k s l best l (l.length : Int) (i : Int) = some (noP (l.drop i) s best) := by
  induction d with
  | zero =>
    intro k i l s best hi hl hk hL hs hn hb
    obtain ⟨k, rfl⟩ : ∃ m, k = m + 1 := ⟨k - 1, by omega⟩
    simp only [impl_noThree.l0]
    rw [if_neg (by omega), List.drop_of_length_le (by omega)]
    rfl
  | succ d ih =>
    intro k i l s best hi hl hk hL hs hn hb
    rw [Nat.succ_mul] at hk
    obtain ⟨k, rfl⟩ : ∃ m, k = m + 1 := ⟨k - 1, by omega⟩
    have hlt : i < l.length := by omega
    have hp : pegP l[i].f0 l[i].f1 := hL _ (List.getElem_mem hlt)
    have hs' : allP (s ++ [l[i]]) := fun q hq => by
      rw [List.mem_append, List.mem_singleton] at hq
      rcases hq with hq | hq
      · exact hs q hq
      · rw [hq]; exact hp
    have hlen : (noP (l.drop (i + 1)) (s ++ [l[i]]) (s ++ [l[i]])).length ≤ 50 := noP_length _ 50 _ _ (by simp; omega) (by simp; omega)
    have hdl : (l.drop (i + 1)).length = d := by simp; omega
    have hf : ∀ k, d * c + 5001 ≤ k → impl_noThree.f k (s ++ [l[i]]) (l.drop (i + 1)) = some (noP (l.drop (i + 1)) (s ++ [l[i]]) (s ++ [l[i]])) := by
      intro k hk
      obtain ⟨k, rfl⟩ : ∃ m, k = m + 1 := ⟨k - 1, by omega⟩
      simp only [impl_noThree.f]
      have := ih k 0 (l.drop (i + 1)) (s ++ [l[i]]) (s ++ [l[i]]) (by omega) (by omega) (by omega) (fun q hq => hL q (List.mem_of_mem_drop hq)) hs' (by simp; omega) (by simp; omega)
      simpa using this
    simp only [impl_noThree.l0]
    rw [if_pos (by omega), if_pos (by omega), if_pos (by omega), rdPegNat l i hlt, List.drop_eq_getElem_cons hlt, noP]
    have := noThree_l1 s l best hs (by omega) (i : Int) (l.length : Int) (i : Int) l[i] hp (d * c + 5002) (fun fl => if fl = true then noP (l.drop (i + 1)) s (if (noP (l.drop (i + 1)) (s ++ [l[i]]) (s ++ [l[i]])).length > best.length then noP (l.drop (i + 1)) (s ++ [l[i]]) (s ++ [l[i]]) else best) else noP (l.drop (i + 1)) s best) (fun fl k hk => by
      obtain ⟨k, rfl⟩ : ∃ m, k = m + 1 := ⟨k - 1, by omega⟩
      simp only [impl_noThree.l1]
      rw [if_neg (by omega), w64 (x := (i : Int) + 1) (by omega) (by omega), show (i : Int) + 1 = ((i + 1 : Nat) : Int) by omega, Int.toNat_natCast]
      cases fl with
      | false =>
        rw [if_neg (by decide), if_neg (by decide)]
        exact ih k (i + 1) l s best (by omega) hl (by omega) hL hs (by omega) hb
      | true =>
        rw [if_pos rfl, if_pos rfl, if_pos (by omega), if_pos (by omega), if_pos (by omega), hf k (by omega), Option.bind_some]
        by_cases e : (noP (l.drop (i + 1)) (s ++ [l[i]]) (s ++ [l[i]])).length > best.length
        · rw [if_pos (by omega), if_pos e]
          exact ih k (i + 1) l s _ (by omega) hl (by omega) hL hs (by omega) hlen
        · rw [if_neg (by omega), if_neg e]
          exact ih k (i + 1) l s _ (by omega) hl (by omega) hL hs (by omega) hb) s.length k 0 true (by omega) (by omega)
    rw [show ((0 : Nat) : Int) = 0 from rfl] at this
    rw [this, Bool.true_and]
    by_cases cf : fitAny s l[i] s.length 0 = true
    · rw [cf]
      rfl
    · rw [Bool.eq_false_iff.mpr cf]
      rfl
theorem noThree_eq (k : Nat) (L : List S30) (hL : allP L) (hlen : L.length ≤ 50) (hk : 300000 ≤ k) : impl_noThree.f k [] L = some (noP L [] []) := by
  obtain ⟨k, rfl⟩ : ∃ m, k = m + 1 := ⟨k - 1, by omega⟩
  simp only [impl_noThree.f]
  have := noThree_loop 4000 (Nat.le_refl _) L.length k 0 L [] [] (by omega) hlen (by omega) hL (fun q hq => absurd hq (by simp)) (by simp; omega) (by simp)
  simpa using this

theorem firstNo_eq (w h : Int) : ∃ R, R.1.length ≤ 50 ∧ (∀ k, 300000 ≤ k → spec_FirstNoThree.f k w h = some R) ∧ (∀ k, 300000 ≤ k → spec_MostNoThree.f k w h = some ((R.1.length : Int), R.2)) ∧ (∀ k, 300000 ≤ k → impl_FirstNoThree.f k w h = some R) := by
  by_cases c : (1 ≤ w ∧ w ≤ 4) ∧ (1 ≤ h ∧ h ≤ 4)
  · obtain ⟨W, rfl⟩ : ∃ n : Nat, w = n := ⟨w.toNat, by omega⟩
    obtain ⟨H, rfl⟩ : ∃ n : Nat, h = n := ⟨h.toNat, by omega⟩
    have hm : W * H ≤ 4 * 4 := Nat.mul_le_mul (by omega) (by omega)
    have hlen := rowsFrom_length H 0 W
    have hall : allP (rowsFrom H 0 W) := fun p hp => by
      have := rows_bound H 0 W 4 (by omega) (by omega) p hp
      unfold pegP
      omega
    have hr : (noP (rowsFrom H 0 W) [] []).length ≤ 50 := noP_length _ 50 _ _ (by simp) (by simp; omega)
    refine ⟨(noP (rowsFrom H 0 W) [] [], true), hr, fun k hk => ?_, fun k hk => ?_, fun k hk => ?_⟩
    · unfold spec_FirstNoThree.f
      rw [ctBoard_eq, Option.bind_some, if_pos (by simpa using c), ctPegs_eq k W H (by omega) (by omega) (by omega), Option.bind_some, ctLook_eq k _ hall (by omega) (by omega), Option.bind_some]
    · unfold spec_MostNoThree.f
      rw [ctBoard_eq, Option.bind_some, if_pos (by simpa using c), ctPegs_eq k W H (by omega) (by omega) (by omega), Option.bind_some, ctLook_eq k _ hall (by omega) (by omega), Option.bind_some]
    · unfold impl_FirstNoThree.f slices_Clone_impl_Peg_impl_Peg.f
      rw [isBoard_eq, Option.bind_some, if_pos (by simpa using c), board_eq k W H (by omega) (by omega) (by omega), Option.bind_some, noThree_eq k _ hall (by omega) (by omega), Option.bind_some]
      simp only [Option.bind_some, List.nil_append, List.length_nil]
      rw [if_pos (by omega), Option.bind_some]
  · refine ⟨([], false), by simp, fun k hk => ?_, fun k hk => ?_, fun k hk => ?_⟩
    · unfold spec_FirstNoThree.f
      rw [ctBoard_eq, Option.bind_some, if_neg (by simpa using c)]
    · unfold spec_MostNoThree.f
      rw [ctBoard_eq, Option.bind_some, if_neg (by simpa using c)]
      rfl
    · unfold impl_FirstNoThree.f
      rw [isBoard_eq, Option.bind_some, if_neg (by simpa using c)]

/-- The one pure statement of the law FnExactMostNoThree. -/
def FnExactMostNoThree.Pure : Prop :=
  ∀ (a0 : Int) (a1 : Int), I64 a0 → I64 a1 → ∃ k, laws_FnExactMostNoThree.f k a0 a1 = some true

theorem FnExactMostNoThree : FnExactMostNoThree.Pure := by
  intro w h _ _
  obtain ⟨k, hk⟩ : ∃ k : Nat, 300000 ≤ k := ⟨300000, Nat.le_refl _⟩
  refine ⟨k, ?_⟩
  obtain ⟨R, _, _, h1, h2⟩ := firstNo_eq w h
  unfold laws_FnExactMostNoThree.f impl_MostNoThree.f
  rw [h1 k hk, Option.bind_some, h2 k hk, Option.bind_some, Option.bind_some, if_pos rfl, if_neg (by simp)]

end Go.Proofs.Ytookmifpgclhlaa.Pure
