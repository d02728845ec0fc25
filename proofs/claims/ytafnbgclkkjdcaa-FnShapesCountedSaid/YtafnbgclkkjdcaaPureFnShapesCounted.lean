/- Squares are among rectangles, upright ones too, right angles are four for each rectangle at least, and most pegs have no three in a line, for all arguments. No condition. -/
import Derived.Test.YtafnbgclkkjdcaaG5
import Derived.Test.YtafnbgclkkjdcaaHSb
import Derived.Test.YtafnbgclkkjdcaaVB
namespace Go.Proofs.Ytafnbgclkkjdcaa.Pure
open Go.RowKit Go.Proofs.YtafnbgclkkjdcaaV Go.Proofs.Ytafnbgclkkjdcaa.MA Go.Proofs.YtafnbgclkkjdcaaW.PrintWords Go.Proofs.YtafnbgclkkjdcaaW.PrintLast Go.Proofs.YtafnbgclkkjdcaaW.PrintMore
theorem in_eq (a lo hi : Int) : jC.f a lo hi = some (decide (lo ≤ a ∧ a ≤ hi)) := by
 unfold jC.f
 by_cases h : lo ≤ a
 ·rw [if_pos h]; simp [h]
 ·rw [if_neg h]; simp [h]
theorem within_eq (a lo hi : Int) : zT.f a lo hi = some (decide (lo ≤ a ∧ a ≤ hi)) := by
 unfold zT.f
 by_cases h : lo ≤ a
 ·rw [if_pos h]; simp [h]
 ·rw [if_neg h]; simp [h]
theorem w64 {x : Int} (h0 : -9223372036854775808 ≤ x) (h1 : x ≤ 9223372036854775807) : wrap64 x = x := by
 unfold wrap64
 omega
theorem mul_bd {x y : Int} (A B : Nat) (hx : -(A : Int) ≤ x ∧ x ≤ A) (hy : -(B : Int) ≤ y ∧ y ≤ B) : -((A * B : Nat) : Int) ≤ x * y ∧ x * y ≤ ((A * B : Nat) : Int) := by
 have h1 : x.natAbs ≤ A := by omega
 have h2 : y.natAbs ≤ B := by omega
 have h3 := Nat.mul_le_mul h1 h2
 rw [← Int.natAbs_mul] at h3
 omega
/-- A peg's numbers. -/
def pegP (x y : Int) : Prop := (-40 ≤ x ∧ x ≤ 40) ∧ (-40 ≤ y ∧ y ≤ 40)
instance (x y : Int) : Decidable (pegP x y) := by unfold pegP; infer_instance
theorem pgIs_eq (x y : Int) : spec_pgIs.f x y = some (decide (pegP x y)) := by
 unfold spec_pgIs.f pegP
 simp only [in_eq, Option.bind_some]
 by_cases c : -40 ≤ x ∧ x ≤ 40
 ·simp [c]
 ·simp [c]
theorem implIsPeg_eq (x y : Int) : xz.f x y = some (decide (pegP x y)) := by
 unfold xz.f pegP
 simp only [within_eq, Option.bind_some]
 by_cases c : -40 ≤ x ∧ x ≤ 40
 ·simp [c]
 ·simp [c]
theorem arePegs_loop (l : List S36) (hl : l.length ≤ 9223372036854775807) (d : Nat) : ∀ (k i : Nat), i + d = l.length → d < k →
  ∃ r, qC.l0 k l (l.length : Int) (i : Int) = some r ∧ decide (r ≥ 0) = (l.drop i).any fun p => !decide (pegP p.f0 p.f1) := by
 induction d with
 | zero =>
  intro k i hi hk
  obtain ⟨k, rfl⟩ : ∃ m, k = m + 1 := ⟨k - 1, by omega⟩
  refine ⟨-1, ?_, ?_⟩
  ·simp only [qC.l0]; rw [if_neg (by omega)]
  ·rw [List.drop_of_length_le (by omega)]; rfl
 | succ d ih =>
  intro k i hi hk
  obtain ⟨k, rfl⟩ : ∃ m, k = m + 1 := ⟨k - 1, by omega⟩
  have hlt : i < l.length := by omega
  have hd : l.drop i = l[i] :: l.drop (i + 1) := List.drop_eq_getElem_cons hlt
  have hr : qb l (i : Int) = l[i] := by
   unfold qb
   simp [List.getD_eq_getElem?_getD, List.getElem?_eq_getElem hlt]
  simp only [qC.l0]
  rw [if_pos (by omega), if_pos (by omega), if_pos (by omega), hr]
  unfold xi.f
  simp only [implIsPeg_eq, Option.bind_some]
  by_cases c : pegP l[i].f0 l[i].f1
  ·obtain ⟨r, h1, h2⟩ := ih k (i + 1) (by omega) (by omega)
   refine ⟨r, ?_, ?_⟩
   ·rw [if_neg (by simp [c]), w64 (by omega) (by omega)]
    exact h1
   ·rw [h2, hd, List.any_cons]; simp [c]
  ·refine ⟨(i : Int), by rw [if_pos (by simp [c])], ?_⟩
   rw [hd, List.any_cons]
   simp [c]
theorem arePegs_eq (k : Nat) (l : List S36) (hl : l.length ≤ 9223372036854775807) (hk : l.length < k) : jr.f k l = some (l.all fun p => decide (pegP p.f0 p.f1)) := by
 obtain ⟨r, h1, h2⟩ := arePegs_loop l hl l.length k 0 (by omega) hk
 unfold jr.f zn.f qC.f
 rw [show ((0 : Nat) : Int) = 0 from rfl] at h1
 rw [h1]
 simp only [Option.bind_some, h2, List.drop_zero]
 congr 1
 rw [List.all_eq_not_any_not]
/-- Twice the area of three points. -/
def tri (ax ay bx by_ cx cy : Int) : Int := (bx - ax) * (cy - ay) - (by_ - ay) * (cx - ax)
theorem pgTurn_eq (M : Nat) (hM : M ≤ 1000000) {ax ay bx by_ cx cy : Int} (h1 : -(M : Int) ≤ ax ∧ ax ≤ M) (h2 : -(M : Int) ≤ ay ∧ ay ≤ M) (h3 : -(M : Int) ≤ bx ∧ bx ≤ M) (h4 : -(M : Int) ≤ by_ ∧ by_ ≤ M) (h5 : -(M : Int) ≤ cx ∧ cx ≤ M) (h6 : -(M : Int) ≤ cy ∧ cy ≤ M) :
  xm.f ax ay bx by_ cx cy = some (tri ax ay bx by_ cx cy) := by
 unfold xm.f tri
 rw [w64 (x := bx - ax) (by omega) (by omega), w64 (x := cy - ay) (by omega) (by omega), w64 (x := by_ - ay) (by omega) (by omega), w64 (x := cx - ax) (by omega) (by omega)]
 have q1 := mul_bd 2000000 2000000 (x := bx - ax) (y := cy - ay) (by omega) (by omega)
 have q2 := mul_bd 2000000 2000000 (x := by_ - ay) (y := cx - ax) (by omega) (by omega)
 rw [w64 (x := (bx - ax) * (cy - ay)) (by omega) (by omega), w64 (x := (by_ - ay) * (cx - ax)) (by omega) (by omega), w64 (by omega) (by omega)]
theorem turn_eq (M : Nat) (hM : M ≤ 1000000) {ax ay bx by_ cx cy : Int} (h1 : -(M : Int) ≤ ax ∧ ax ≤ M) (h2 : -(M : Int) ≤ ay ∧ ay ≤ M) (h3 : -(M : Int) ≤ bx ∧ bx ≤ M) (h4 : -(M : Int) ≤ by_ ∧ by_ ≤ M) (h5 : -(M : Int) ≤ cx ∧ cx ≤ M) (h6 : -(M : Int) ≤ cy ∧ cy ≤ M) :
  ji.f ax ay bx by_ cx cy = some (tri ax ay bx by_ cx cy) := by
 unfold ji.f zA.f impl_cross.f tri
 simp only [Option.bind_some]
 rw [w64 (x := bx - ax) (by omega) (by omega), w64 (x := cy - ay) (by omega) (by omega), w64 (x := by_ - ay) (by omega) (by omega), w64 (x := cx - ax) (by omega) (by omega)]
 have q1 := mul_bd 2000000 2000000 (x := bx - ax) (y := cy - ay) (by omega) (by omega)
 have q2 := mul_bd 2000000 2000000 (x := by_ - ay) (y := cx - ax) (by omega) (by omega)
 rw [w64 (x := (bx - ax) * (cy - ay)) (by omega) (by omega), w64 (x := (by_ - ay) * (cx - ax)) (by omega) (by omega), w64 (by omega) (by omega)]
theorem jX (w h m : Int) : zx.f w h m = some (decide ((1 ≤ w ∧ w ≤ m) ∧ (1 ≤ h ∧ h ≤ m))) := by
 unfold zx.f
 simp only [in_eq, Option.bind_some]
 by_cases c : 1 ≤ w ∧ w ≤ m
 ·simp [c]
 ·simp [c]
theorem xn (w h m : Int) : zy.f w h m = some (decide ((1 ≤ w ∧ w ≤ m) ∧ (1 ≤ h ∧ h ≤ m))) := by
 unfold zy.f
 simp only [within_eq, Option.bind_some]
 by_cases c : 1 ≤ w ∧ w ≤ m
 ·simp [c]
 ·simp [c]
/-- The pegs of a board from column x on, e columns. -/
def zl (h x e : Nat) : List S36 := (List.range' x e).flatMap fun (x : Nat) => (List.range' 0 h).map fun (y : Nat) => (⟨(x : Int), (y : Int)⟩ : S36)
def xH (x y d : Nat) : List S36 := (List.range' y d).map fun (y : Nat) => (⟨(x : Int), (y : Int)⟩ : S36)
theorem colFrom_succ (x y d : Nat) : xH x y (d + 1) = (⟨(x : Int), (y : Int)⟩ : S36) :: xH x (y + 1) d := by
 simp [xH, List.range'_succ]
theorem rowsFrom_succ (h x e : Nat) : zl h x (e + 1) = xH x 0 h ++ zl h (x + 1) e := by
 simp [zl, xH, List.range'_succ]
theorem jF (h x e : Nat) : (zl h x e).length = e * h := by
 induction e generalizing x with
 | zero => simp [zl]
 | succ e ih => rw [rowsFrom_succ, List.length_append, ih, Nat.succ_mul]; simp [xH]; omega
theorem ctPegs_in (w h : Nat) (hh : h ≤ 100) (x : Nat) (K0 : Nat) (R : List S36) (B : Nat) (hB : B ≤ 100000)
  (hc : ∀ k acc, K0 ≤ k → acc.length ≤ B → qT.l0 k (w : Int) (h : Int) acc (wrap64 ((x : Int) + 1)) = some (acc ++ R)) (d : Nat) : ∀ (k y : Nat) (acc : List S36), y + d = h → K0 + d + 1 ≤ k → acc.length + d ≤ B →
  qT.l1 k (w : Int) (h : Int) acc (x : Int) (y : Int) = some (acc ++ xH x y d ++ R) := by
 induction d with
 | zero =>
  intro k y acc hy hk hl
  obtain ⟨k, rfl⟩ : ∃ m, k = m + 1 := ⟨k - 1, by omega⟩
  simp only [qT.l1]
  rw [if_neg (by omega), hc k acc (by omega) (by omega)]
  simp [xH]
 | succ d ih =>
  intro k y acc hy hk hl
  obtain ⟨k, rfl⟩ : ∃ m, k = m + 1 := ⟨k - 1, by omega⟩
  simp only [qT.l1]
  rw [if_pos (by omega), if_pos (by omega), w64 (by omega) (by omega)]
  have := ih k (y + 1) (acc ++ [⟨(x : Int), (y : Int)⟩]) (by omega) (by omega) (by simp; omega)
  rw [show ((y : Int) + 1) = ((y + 1 : Nat) : Int) by omega, this, colFrom_succ]
  simp
theorem ctPegs_loop (w h : Nat) (hw : w ≤ 100) (hh : h ≤ 100) (e : Nat) : ∀ (k x : Nat) (acc : List S36), x + e = w → e * (h + 2) + 1 ≤ k → acc.length + e * h ≤ 20000 →
  qT.l0 k (w : Int) (h : Int) acc (x : Int) = some (acc ++ zl h x e) := by
 induction e with
 | zero =>
  intro k x acc hx hk hl
  obtain ⟨k, rfl⟩ : ∃ m, k = m + 1 := ⟨k - 1, by omega⟩
  simp only [qT.l0]
  rw [if_neg (by omega)]
  simp [zl]
 | succ e ih =>
  intro k x acc hx hk hl
  obtain ⟨k, rfl⟩ : ∃ m, k = m + 1 := ⟨k - 1, by omega⟩
  rw [Nat.succ_mul] at hk hl
  simp only [qT.l0]
  rw [if_pos (by omega)]
  have := ctPegs_in w h hh x (e * (h + 2) + 1) (zl h (x + 1) e) (acc.length + h) (by omega) (fun k' acc' hk' hl' => by
   rw [w64 (by omega) (by omega)]
   exact ih k' (x + 1) acc' (by omega) hk' (by omega)) h k 0 acc (by omega) (by omega) (by omega)
  rw [show ((0 : Nat) : Int) = 0 from rfl] at this
  rw [this, rowsFrom_succ, List.append_assoc]
theorem ctPegs_eq (k w h : Nat) (hw : w ≤ 100) (hh : h ≤ 100) (hk : 10300 ≤ k) : qT.f k (w : Int) (h : Int) = some (zl h 0 w) := by
 unfold qT.f
 have h1 : w * (h + 2) ≤ 100 * 102 := Nat.mul_le_mul hw (by omega)
 have h2 : w * h ≤ 100 * 100 := Nat.mul_le_mul hw hh
 have := ctPegs_loop w h hw hh w k 0 [] (by omega) (by omega) (by simp; omega)
 rw [show ((0 : Nat) : Int) = 0 from rfl] at this
 rw [this]
 simp
theorem board_in (w h : Nat) (hh : h ≤ 100) (x : Nat) (K0 : Nat) (R : List S36) (B : Nat) (hB : B ≤ 100000)
  (hc : ∀ k acc, K0 ≤ k → acc.length ≤ B → zb.l0 k (h : Int) acc (w : Int) (wrap64 ((x : Int) + 1)) = some (acc ++ R)) (d : Nat) : ∀ (k y : Nat) (acc : List S36), y + d = h → K0 + d + 1 ≤ k → acc.length + d ≤ B →
  zb.l1 k (h : Int) acc (x : Int) (w : Int) (x : Int) (h : Int) (y : Int) = some (acc ++ xH x y d ++ R) := by
 induction d with
 | zero =>
  intro k y acc hy hk hl
  obtain ⟨k, rfl⟩ : ∃ m, k = m + 1 := ⟨k - 1, by omega⟩
  simp only [zb.l1]
  rw [if_neg (by omega), hc k acc (by omega) (by omega)]
  simp [xH]
 | succ d ih =>
  intro k y acc hy hk hl
  obtain ⟨k, rfl⟩ : ∃ m, k = m + 1 := ⟨k - 1, by omega⟩
  simp only [zb.l1]
  rw [if_pos (by omega), if_pos (by omega), w64 (by omega) (by omega)]
  have := ih k (y + 1) (acc ++ [⟨(x : Int), (y : Int)⟩]) (by omega) (by omega) (by simp; omega)
  rw [show ((y : Int) + 1) = ((y + 1 : Nat) : Int) by omega, this, colFrom_succ]
  simp
theorem board_loop (w h : Nat) (hw : w ≤ 100) (hh : h ≤ 100) (e : Nat) : ∀ (k x : Nat) (acc : List S36), x + e = w → e * (h + 2) + 1 ≤ k → acc.length + e * h ≤ 20000 →
  zb.l0 k (h : Int) acc (w : Int) (x : Int) = some (acc ++ zl h x e) := by
 induction e with
 | zero =>
  intro k x acc hx hk hl
  obtain ⟨k, rfl⟩ : ∃ m, k = m + 1 := ⟨k - 1, by omega⟩
  simp only [zb.l0]
  rw [if_neg (by omega)]
  simp [zl]
 | succ e ih =>
  intro k x acc hx hk hl
  obtain ⟨k, rfl⟩ : ∃ m, k = m + 1 := ⟨k - 1, by omega⟩
  rw [Nat.succ_mul] at hk hl
  simp only [zb.l0]
  rw [if_pos (by omega)]
  have := board_in w h hh x (e * (h + 2) + 1) (zl h (x + 1) e) (acc.length + h) (by omega) (fun k' acc' hk' hl' => by
   rw [w64 (by omega) (by omega)]
   exact ih k' (x + 1) acc' (by omega) hk' (by omega)) h k 0 acc (by omega) (by omega) (by omega)
  rw [show ((0 : Nat) : Int) = 0 from rfl] at this
  rw [this, rowsFrom_succ, List.append_assoc]
theorem board_eq (k w h : Nat) (hw : w ≤ 100) (hh : h ≤ 100) (hk : 10300 ≤ k) : zb.f k (w : Int) (h : Int) = some (zl h 0 w) := by
 unfold zb.f
 have h1 : w * (h + 2) ≤ 100 * 102 := Nat.mul_le_mul hw (by omega)
 have h2 : w * h ≤ 100 * 100 := Nat.mul_le_mul hw hh
 have := board_loop w h hw hh w k 0 [] (by omega) (by omega) (by simp; omega)
 rw [show ((0 : Nat) : Int) = 0 from rfl] at this
 rw [this]
 simp
theorem rows_bound (h x e M : Nat) (hM : x + e ≤ M) (hh : h ≤ M) : ∀ p ∈ zl h x e, (0 ≤ p.f0 ∧ p.f0 < M) ∧ (0 ≤ p.f1 ∧ p.f1 < M) := by
 intro p hp
 unfold zl at hp
 rw [List.mem_flatMap] at hp
 obtain ⟨a, ha, hp⟩ := hp
 rw [List.mem_map] at hp
 obtain ⟨b, hb, rfl⟩ := hp
 rw [List.mem_range'_1] at ha hb
 refine ⟨⟨?_, ?_⟩, ⟨?_, ?_⟩⟩ <;> simp <;> omega
theorem isOnBoard_eq (w h x y : Int) (hw : 1 ≤ w ∧ w ≤ 1000) (hh : 1 ≤ h ∧ h ≤ 1000) : jt.f w h x y = some (decide ((0 ≤ x ∧ x ≤ w - 1) ∧ (0 ≤ y ∧ y ≤ h - 1))) := by
 unfold jt.f
 rw [w64 (x := w - 1) (by omega) (by omega), w64 (x := h - 1) (by omega) (by omega)]
 simp only [within_eq, Option.bind_some]
 by_cases c : 0 ≤ x ∧ x ≤ w - 1
 ·simp [c]
 ·simp [c]
def samePeg (p q : S36) : Bool := p.f0 == q.f0 && p.f1 == q.f1
def pegB (p : S36) : Bool := decide (pegP p.f0 p.f1)
def jT : List S36 → List S36 → Bool
 | _, [] => true
 | pre, p :: r => !(pre.any (samePeg p)) && jT (pre ++ [p]) r
/-- Different pegs, no more than 30 and at least one. -/
def goodB (l : List S36) : Bool := decide (1 ≤ l.length ∧ l.length ≤ 30) && (l.all pegB && jT [] l)
theorem rdPeg (pre r : List S36) (p : S36) : qb (pre ++ p :: r) (pre.length : Int) = p := by
 unfold qb
 simp [List.getD_eq_getElem?_getD]
theorem xb (l : List S36) (i : Nat) (h : i < l.length) : qb l (i : Int) = l[i] := by
 unfold qb
 simp [List.getD_eq_getElem?_getD, List.getElem?_eq_getElem h]
/-- A place is one of the board's. -/
def onB (w h x y : Int) : Bool := decide ((0 ≤ x ∧ x ≤ w - 1) ∧ (0 ≤ y ∧ y ≤ h - 1))
/-- How many steps of a way stay on the board, counted up to some number. -/
def runL (w h dx dy : Int) : Nat → Int → Int → Nat
 | 0, _, _ => 0
 | f + 1, x, y => if onB w h x y then runL w h dx dy f (x + dx) (y + dy) + 1 else 0
/-- n over 3, as the program's loop comes to it. -/
def choose3 (n : Int) : Int := wrap64 (Int.tdiv (wrap64 (wrap64 (Int.tdiv (wrap64 (wrap64 (Int.tdiv (wrap64 (1 * wrap64 (n - 0))) 1) * wrap64 (n - 1))) 2) * wrap64 (n - 2))) 3)
def visF (_w _h acc n : Int) : Int := wrap64 (acc + choose3 n)
/-- What a line of n pegs adds. -/
def cF (_w _h n : Nat) : Nat := n * (n - 1) * (n - 2) / 6
theorem cF_small : ∀ n : Fin 14, choose3 (n.val : Int) = ((cF 0 0 n.val : Nat) : Int) ∧ cF 0 0 n.val ≤ 300 := by decide +kernel
theorem cF_le (w h n : Nat) (hn : n ≤ 13) : cF w h n ≤ 300 := (cF_small ⟨n, by omega⟩).2
theorem vis_nat (w h acc n : Nat) (hn : n ≤ 13) (ha : acc ≤ 1000000000000) : visF w h acc n = ((acc + cF w h n : Nat) : Int) := by
 unfold visF
 have h1 : choose3 (n : Int) = ((cF w h n : Nat) : Int) := (cF_small ⟨n, by omega⟩).1
 have h2 := cF_le w h n hn
 rw [h1, w64 (by omega) (by omega)]
 omega
theorem choose3_eq (k : Nat) (n : Int) (hk : 4 ≤ k) : qU.f k n 3 = some (choose3 n) := by
 obtain ⟨k, rfl⟩ : ∃ m, k = m + 4 := ⟨k - 4, by omega⟩
 unfold qU.f
 rw [qU.l0, if_pos (by decide), show wrap64 (0 + 1) = 1 by unfold wrap64; omega, if_neg (by decide)]
 rw [qU.l0, if_pos (by decide), show wrap64 (1 + 1) = 2 by unfold wrap64; omega, if_neg (by decide)]
 rw [qU.l0, if_pos (by decide), show wrap64 (2 + 1) = 3 by unfold wrap64; omega, if_neg (by decide)]
 rw [qU.l0, if_neg (by decide)]
 rfl
theorem visit_eq (w h : Int) (k : Nat) (n acc : Int) (hk : 4 ≤ k) : jk.f k n acc = some (visF w h acc n) := by
 unfold jk.f
 rw [choose3_eq k n hk, Option.bind_some]
 rfl
/-- What a peg adds: nothing if a line does not begin there. -/
def lineStep (w h dx dy : Int) (acc : Int) (p : S36) : Int :=
 if onB w h (p.f0 - dx) (p.f1 - dy) then acc
 else if runL w h dx dy 12 p.f0 p.f1 > 1 then visF w h acc (runL w h dx dy 12 p.f0 p.f1 : Nat) else acc
theorem straight_l2 (W H : Int) (hW : 1 ≤ W ∧ W ≤ 12) (hH : 1 ≤ H ∧ H ≤ 12) (dx dy : Int) (hdx : 0 ≤ dx ∧ dx ≤ 12) (hdy : -12 ≤ dy ∧ dy ≤ 12) (K0 : Nat) (L B : List S36) (x14 x15 x22 x23 acc : Int) (R : Int) (f : Nat) :
  ∀ (k n : Nat) (x y : Int), ((1 ≤ dx ∧ W - x ≤ f) ∨ (dx = 0 ∧ 1 ≤ dy ∧ H - y ≤ f)) → n + f ≤ 1000 → K0 + f + 10 ≤ k →
  (∀ k', K0 ≤ k' → qL.l1 k' W H L x14 x15 B x22 (wrap64 (x23 + 1)) (if n + runL W H dx dy f x y > 1 then visF W H acc ((n + runL W H dx dy f x y : Nat) : Int) else acc)  dx dy = some R) →
  qL.l2 k W H (n : Int) L x14 x15 B x22 x23 acc  dx dy x y = some R := by
 have off : ∀ (k n : Nat) (x y : Int), ¬ ((0 ≤ x ∧ x ≤ W - 1) ∧ (0 ≤ y ∧ y ≤ H - 1)) → K0 + 8 ≤ k → (∀ k', K0 ≤ k' → qL.l1 k' W H L x14 x15 B x22 (wrap64 (x23 + 1)) (if n > 1 then visF W H acc (n : Int) else acc)  dx dy = some R) →
   qL.l2 k W H (n : Int) L x14 x15 B x22 x23 acc  dx dy x y = some R := by
  intro k n x y hoff hk hc
  obtain ⟨k, rfl⟩ : ∃ m, k = m + 1 := ⟨k - 1, by omega⟩
  rw [qL.l2, isOnBoard_eq W H x y (by omega) (by omega), Option.bind_some, decide_eq_false hoff, if_neg (by decide)]
  have h1 := hc k (by omega)
  by_cases g : n > 1
  ·rw [if_pos g] at h1
   rw [if_pos (show (n : Int) > 1 by omega)]
   first
   | (rw [visit_eq W H _ _ _ (by omega), Option.bind_some]; exact h1)
   | (rw [visit_eq W H, Option.bind_some]; exact h1)
  ·rw [if_neg g] at h1
   rw [if_neg (show ¬ (n : Int) > 1 by omega)]
   exact h1
 induction f with
 | zero =>
  intro k n x y hf hn hk hc
  exact off k n x y (by omega) (by omega) (fun k' h => by simpa [runL] using hc k' h)
 | succ f ih =>
  intro k n x y hf hn hk hc
  by_cases c : (0 ≤ x ∧ x ≤ W - 1) ∧ (0 ≤ y ∧ y ≤ H - 1)
  ·obtain ⟨k, rfl⟩ : ∃ m, k = m + 1 := ⟨k - 1, by omega⟩
   have hr : runL W H dx dy (f + 1) x y = runL W H dx dy f (x + dx) (y + dy) + 1 := by
    rw [runL, if_pos]
    unfold onB
    exact decide_eq_true c
   rw [hr] at hc
   rw [qL.l2, isOnBoard_eq W H x y (by omega) (by omega), Option.bind_some, decide_eq_true c, if_pos rfl]
   unfold jJ.f
   rw [Option.bind_some, w64 (x := x + dx) (by omega) (by omega), w64 (x := y + dy) (by omega) (by omega), w64 (x := (n : Int) + 1) (by omega) (by omega)]
   have := ih k (n + 1) (x + dx) (y + dy) (by omega) (by omega) (by omega) (fun k' h => by
    have := hc k' h
    rw [show n + (runL W H dx dy f (x + dx) (y + dy) + 1) = n + 1 + runL W H dx dy f (x + dx) (y + dy) by omega] at this
    exact this)
   exact this
  ·have hr : runL W H dx dy (f + 1) x y = 0 := by
    rw [runL, if_neg]
    unfold onB
    rw [decide_eq_false c]
    decide
   rw [hr] at hc
   exact off k n x y c (by omega) hc
theorem straight_l1 (W H : Int) (hW : 1 ≤ W ∧ W ≤ 12) (hH : 1 ≤ H ∧ H ≤ 12) (dx dy : Int) (hdx : 0 ≤ dx ∧ dx ≤ 12) (hdy : -12 ≤ dy ∧ dy ≤ 12) (hd : 1 ≤ dx ∨ (dx = 0 ∧ 1 ≤ dy)) (K0 : Nat) (L B : List S36) (hB : B.length ≤ 1000) (hb : ∀ p ∈ B, (0 ≤ p.f0 ∧ p.f0 < 12) ∧ (0 ≤ p.f1 ∧ p.f1 < 12)) (x14 x15 : Int) (R : Int) (d : Nat) :
  ∀ (k i : Nat) (acc : Int), i + d = B.length → K0 + d * 30 + 1 ≤ k →
  (∀ k', K0 ≤ k' → qL.l0 k' W H L x14 (wrap64 (x15 + 1)) ((B.drop i).foldl (lineStep W H dx dy) acc)  = some R) →
  qL.l1 k W H L x14 x15 B (B.length : Int) (i : Int) acc  dx dy = some R := by
 induction d with
 | zero =>
  intro k i acc hi hk hc
  obtain ⟨k, rfl⟩ : ∃ m, k = m + 1 := ⟨k - 1, by omega⟩
  have h1 := hc k (by omega)
  rw [List.drop_of_length_le (by omega), List.foldl_nil] at h1
  rw [qL.l1, if_neg (by omega)]
  exact h1
 | succ d ih =>
  intro k i acc hi hk hc
  obtain ⟨k, rfl⟩ : ∃ m, k = m + 1 := ⟨k - 1, by omega⟩
  have hlt : i < B.length := by omega
  have hr : qb B (i : Int) = B[i] := by
   unfold qb
   simp [List.getD_eq_getElem?_getD, List.getElem?_eq_getElem hlt]
  obtain ⟨hp0, hp1⟩ := hb B[i] (List.getElem_mem hlt)
  rw [List.drop_eq_getElem_cons hlt, List.foldl_cons] at hc
  rw [qL.l1, if_pos (by omega), if_pos (by omega), if_pos (by omega), hr]
  unfold zA.f
  rw [Option.bind_some, w64 (x := B[i].f0 - dx) (by omega) (by omega), w64 (x := B[i].f1 - dy) (by omega) (by omega), isOnBoard_eq W H _ _ (by omega) (by omega), Option.bind_some]
  have hs : lineStep W H dx dy acc B[i] = if onB W H (B[i].f0 - dx) (B[i].f1 - dy) then acc else if runL W H dx dy 12 B[i].f0 B[i].f1 > 1 then visF W H acc (runL W H dx dy 12 B[i].f0 B[i].f1 : Nat) else acc := rfl
  rw [hs] at hc
  unfold onB at hc
  by_cases c : (0 ≤ B[i].f0 - dx ∧ B[i].f0 - dx ≤ W - 1) ∧ (0 ≤ B[i].f1 - dy ∧ B[i].f1 - dy ≤ H - 1)
  ·rw [decide_eq_true c, if_pos rfl] at hc
   rw [decide_eq_true c, if_pos rfl, w64 (x := (i : Int) + 1) (by omega) (by omega)]
   exact ih k (i + 1) acc (by omega) (by omega) hc
  ·rw [decide_eq_false c, if_neg (by decide)] at hc
   rw [decide_eq_false c, if_neg (by decide)]
   refine straight_l2 W H hW hH dx dy hdx hdy (K0 + d * 30 + 1) L B x14 x15 _ _ acc R 12 k 0 _ _ (by omega) (by omega) (by omega) fun k' hk' => ?_
   rw [Nat.zero_add, w64 (x := (i : Int) + 1) (by omega) (by omega)]
   exact ih k' (i + 1) _ (by omega) (by omega) hc
/-- What all lines of some slopes come to. -/
def straightL (w h : Nat) (L : List S36) (acc : Int) : Int := L.foldl (fun a s => (zl h 0 w).foldl (lineStep (w : Int) (h : Int) s.f0 s.f1) a) acc
theorem straight_l0 (w h : Nat) (hw : 1 ≤ w ∧ w ≤ 12) (hh : 1 ≤ h ∧ h ≤ 12) (L : List S36) (hL : L.length ≤ 1000) (hs : ∀ s ∈ L, (0 ≤ s.f0 ∧ s.f0 ≤ 12) ∧ (-12 ≤ s.f1 ∧ s.f1 ≤ 12) ∧ (1 ≤ s.f0 ∨ (s.f0 = 0 ∧ 1 ≤ s.f1))) (d : Nat) :
  ∀ (k i : Nat) (acc : Int), i + d = L.length → d * 20000 + 20000 ≤ k →
  qL.l0 k (w : Int) (h : Int) L (L.length : Int) (i : Int) acc  = some (straightL w h (L.drop i) acc) := by
 have hlen := jF h 0 w
 have hm : w * h ≤ 12 * 12 := Nat.mul_le_mul (by omega) (by omega)
 induction d with
 | zero =>
  intro k i acc hi hk
  obtain ⟨k, rfl⟩ : ∃ m, k = m + 1 := ⟨k - 1, by omega⟩
  rw [qL.l0, if_neg (by omega), List.drop_of_length_le (by omega)]
  rfl
 | succ d ih =>
  intro k i acc hi hk
  obtain ⟨k, rfl⟩ : ∃ m, k = m + 1 := ⟨k - 1, by omega⟩
  have hlt : i < L.length := by omega
  have hr : qb L (i : Int) = L[i] := by
   unfold qb
   simp [List.getD_eq_getElem?_getD, List.getElem?_eq_getElem hlt]
  obtain ⟨h0, h1, h2⟩ := hs L[i] (List.getElem_mem hlt)
  rw [qL.l0, if_pos (by omega), if_pos (by omega), if_pos (by omega), hr, board_eq k w h (by omega) (by omega) (by omega), Option.bind_some, List.drop_eq_getElem_cons hlt]
  refine straight_l1 w h (by omega) (by omega) L[i].f0 L[i].f1 h0 h1 h2 (d * 20000 + 20000) L (zl h 0 w) (by omega) (fun p hp => ?_) _ _ _ (zl h 0 w).length k 0 acc (by omega) (by omega) fun k' hk' => ?_
  ·have := rows_bound h 0 w 12 (by omega) (by omega) p hp
   omega
  ·rw [w64 (x := (i : Int) + 1) (by omega) (by omega), List.drop_zero]
   have := ih k' (i + 1) ((zl h 0 w).foldl (lineStep (w : Int) (h : Int) L[i].f0 L[i].f1) acc) (by omega) hk'
   exact this
theorem runL_le (w h dx dy : Int) (f : Nat) : ∀ x y, runL w h dx dy f x y ≤ f := by
 induction f with
 | zero => intro x y; exact Nat.le_refl _
 | succ f ih =>
  intro x y
  rw [runL]
  split
  ·have := ih (x + dx) (y + dy)
   omega
  ·omega
def sumC (F : S36 → Nat) : List S36 → Nat
 | [] => 0
 | p :: l => F p + sumC F l
theorem sumC_append (F : S36 → Nat) (a b : List S36) : sumC F (a ++ b) = sumC F a + sumC F b := by
 induction a with
 | nil => simp [sumC]
 | cons p l ih => simp only [List.cons_append, sumC, ih]; omega
theorem sumC_le (F : S36 → Nat) (M : Nat) (l : List S36) (h : ∀ p ∈ l, F p ≤ M) : sumC F l ≤ l.length * M := by
 induction l with
 | nil => simp [sumC]
 | cons p l ih =>
  have h1 := ih fun q hq => h q (by simp [hq])
  have h2 := h p (by simp)
  rw [sumC, List.length_cons, Nat.succ_mul]
  omega
theorem room_left (A Ln Sm l' : Nat) (h1 : A + (l' * 1000000 + 1000000) ≤ 1000000000000) (h2 : Ln * 300 ≤ 43200) (h3 : Sm ≤ Ln * 300) : A + Ln * 300 ≤ 1000000000000 ∧ A + Sm + l' * 1000000 ≤ 1000000000000 := by omega
def lineC (w h : Nat) (dx dy : Int) (p : S36) : Nat :=
 if onB w h (p.f0 - dx) (p.f1 - dy) then 0
 else if runL w h dx dy 12 p.f0 p.f1 > 1 then cF w h (runL w h dx dy 12 p.f0 p.f1) else 0
theorem lineC_le (w h : Nat) (dx dy : Int) (p : S36) : lineC w h dx dy p ≤ 300 := by
 unfold lineC
 split
 ·omega
 ·split
  ·exact cF_le _ _ _ (Nat.le_trans (runL_le _ _ _ _ _ _ _) (by omega))
  ·omega
theorem lineStep_nat (w h : Nat) (dx dy : Int) (acc : Nat) (p : S36) (ha : acc ≤ 1000000000000) : lineStep w h dx dy (acc : Int) p = ((acc + lineC w h dx dy p : Nat) : Int) := by
 unfold lineStep lineC
 by_cases c : onB w h (p.f0 - dx) (p.f1 - dy) = true
 ·rw [if_pos c, if_pos c]; rfl
 ·rw [if_neg c, if_neg c]
  by_cases g : runL w h dx dy 12 p.f0 p.f1 > 1
  ·rw [if_pos g, if_pos g]
   exact vis_nat _ _ _ _ (Nat.le_trans (runL_le _ _ _ _ _ _ _) (by omega)) ha
  ·rw [if_neg g, if_neg g]; rfl
theorem line_fold (w h : Nat) (dx dy : Int) (B : List S36) : ∀ acc : Nat, acc + B.length * 300 ≤ 1000000000000 → B.foldl (lineStep w h dx dy) (acc : Int) = ((acc + sumC (lineC w h dx dy) B : Nat) : Int) := by
 induction B with
 | nil => intro acc _; rfl
 | cons p l ih =>
  intro acc ha
  rw [List.length_cons, Nat.succ_mul] at ha
  have := lineC_le w h dx dy p
  rw [List.foldl_cons, lineStep_nat w h dx dy acc p (by omega), ih _ (by omega), sumC, Nat.add_assoc]
theorem straight_sum (w h : Nat) (hm : w * h ≤ 144) (L : List S36) : ∀ acc : Nat, acc + L.length * 1000000 ≤ 1000000000000 → straightL w h L (acc : Int) = ((acc + sumC (fun s => sumC (lineC w h s.f0 s.f1) (zl h 0 w)) L : Nat) : Int) := by
 induction L with
 | nil => intro acc _; rfl
 | cons s l ih =>
  intro acc ha
  rw [List.length_cons, Nat.succ_mul] at ha
  have hlen := jF h 0 w
  have h1 := sumC_le (lineC w h s.f0 s.f1) 300 (zl h 0 w) (fun p _ => lineC_le _ _ _ _ _)
  have h2 : (zl h 0 w).length * 300 ≤ 43200 := Nat.mul_le_mul_right 300 (show (zl h 0 w).length ≤ 144 by rw [hlen]; exact hm)
  obtain ⟨h4, h5⟩ := room_left acc _ _ _ ha h2 h1
  have h3 : straightL w h (s :: l) (acc : Int) = straightL w h l ((zl h 0 w).foldl (lineStep (w : Int) (h : Int) s.f0 s.f1) (acc : Int)) := rfl
  rw [h3, line_fold w h s.f0 s.f1 (zl h 0 w) acc h4, ih _ h5, sumC, Nat.add_assoc]
/-- A sum of some numbers from x on. -/
def sumR (F : Nat → Nat) : Nat → Nat → Nat
 | _, 0 => 0
 | x, e + 1 => Nat.add (F x) (sumR F (x + 1) e)
theorem sumR_ext (F G : Nat → Nat) (e : Nat) : ∀ x, (∀ j, x ≤ j → j < x + e → F j = G j) → sumR F x e = sumR G x e := by
 induction e with
 | zero => intro x _; rfl
 | succ e ih => intro x h; rw [sumR, sumR, h x (by omega) (by omega), ih (x + 1) fun j h1 h2 => h j (by omega) (by omega)]
theorem sumR_last (F : Nat → Nat) (e : Nat) : ∀ x, sumR F x (e + 1) = sumR F x e + F (x + e) := by
 induction e with
 | zero => intro x; show F x + 0 = 0 + F (x + 0); simp
 | succ e ih => intro x; rw [sumR, ih (x + 1), sumR]; show F x + _ = F x + _ + _; rw [show x + 1 + e = x + (e + 1) by omega]; omega
theorem sumR_shift (F : Nat → Nat) (e : Nat) : ∀ x, sumR F (x + 1) e = sumR (fun j => F (j + 1)) x e := by
 induction e with
 | zero => intro x; rfl
 | succ e ih => intro x; rw [sumR, sumR, ih (x + 1)]
theorem sumR_turn (F : Nat → Nat) (e : Nat) : sumR (fun j => F (e - 1 - j)) 0 e = sumR F 0 e := by
 induction e with
 | zero => rfl
 | succ e ih =>
  rw [sumR_last F e 0, ← ih, sumR, sumR_shift]
  show F (e + 1 - 1 - 0) + _ = _ + F (0 + e)
  rw [Nat.zero_add, Nat.add_comm]
  congr 1
  exact sumR_ext _ _ e 0 fun j _ hj => by
   show F (e + 1 - 1 - (j + 1)) = F (e - 1 - j)
   congr 1
   omega
theorem sumC_col (F : S36 → Nat) (x : Nat) (d : Nat) : ∀ y, sumC F (xH x y d) = sumR (fun j => F ⟨(x : Int), (j : Int)⟩) y d := by
 induction d with
 | zero => intro y; rfl
 | succ d ih => intro y; rw [colFrom_succ, sumC, ih, sumR]; rfl
theorem sumC_rows (F : S36 → Nat) (h : Nat) (e : Nat) : ∀ x, sumC F (zl h x e) = sumR (fun i => sumR (fun j => F ⟨(i : Int), (j : Int)⟩) 0 h) x e := by
 induction e with
 | zero => intro x; rfl
 | succ e ih => intro x; rw [rowsFrom_succ, sumC_append, sumC_col, ih, sumR]; rfl
def runN (w h dx e : Nat) : Nat → Nat → Nat → Nat
 | 0, _, _ => 0
 | f + 1, x, y => if Nat.blt x w && Nat.blt y h then runN w h dx e f (Nat.add x dx) (Nat.add y e) + 1 else 0
theorem sumR_zero (F : Nat → Nat) (m d : Nat) (hz : ∀ j, m ≤ j → j < m + d → F j = 0) : sumR F 0 (m + d) = sumR F 0 m := by
 induction d with
 | zero => rfl
 | succ d ih => rw [← Nat.add_assoc, sumR_last, ih fun j h1 h2 => hz j h1 (by omega), hz (0 + (m + d)) (by omega) (by omega)]; rfl
theorem sumR_cut (F : Nat → Nat) (n m : Nat) (hm : m ≤ n) (hz : ∀ j, m ≤ j → j < n → F j = 0) : sumR F 0 n = sumR F 0 m := by
 obtain ⟨d, rfl⟩ : ∃ d, n = m + d := ⟨n - m, by omega⟩
 exact sumR_zero F m d hz
theorem sumR_none (F : Nat → Nat) (e : Nat) (x : Nat) (hz : ∀ j, F j = 0) : sumR F x e = 0 := by
 induction e generalizing x with
 | zero => rfl
 | succ e ih => rw [sumR, hz, ih]
theorem run_up (w h dx e : Nat) (f : Nat) : ∀ x y : Nat, runL w h dx e f x y = runN w h dx e f x y := by
 induction f with
 | zero => intro x y; rfl
 | succ f ih =>
  intro x y
  rw [runL, runN]
  by_cases c : x < w ∧ y < h
  ·rw [if_pos (by unfold onB; rw [decide_eq_true_eq]; omega), if_pos (by simp [Nat.blt_eq, c])]
   have := ih (x + dx) (y + e)
   rw [Int.natCast_add, Int.natCast_add] at this
   rw [this]
   rfl
  ·rw [if_neg (by unfold onB; rw [decide_eq_true_eq]; omega), if_neg (by simp only [Bool.and_eq_true, Nat.blt_eq]; exact c)]
theorem run_down (w h dx e : Nat) (f : Nat) : ∀ x y : Nat, runL w h dx (-(e : Int)) f x ((h : Int) - 1 - y) = runN w h dx e f x y := by
 induction f with
 | zero => intro x y; rfl
 | succ f ih =>
  intro x y
  rw [runL, runN]
  by_cases c : x < w ∧ y < h
  ·rw [if_pos (by unfold onB; rw [decide_eq_true_eq]; omega), if_pos (by simp [Nat.blt_eq, c])]
   have := ih (x + dx) (y + e)
   rw [Int.natCast_add, show (h : Int) - 1 - ((y + e : Nat) : Int) = (h : Int) - 1 - y + -(e : Int) by omega] at this
   rw [this]
   rfl
  ·rw [if_neg (by unfold onB; rw [decide_eq_true_eq]; omega), if_neg (by simp only [Bool.and_eq_true, Nat.blt_eq]; exact c)]
def cellN (w h dx e x y : Nat) : Nat :=
 if Nat.blt x dx || Nat.blt y e then (if Nat.ble 2 (runN w h dx e 12 x y) then cF w h (runN w h dx e 12 x y) else 0) else 0
def slopeN (w h dx e : Nat) : Nat := sumR (fun x => sumR (fun y => cellN w h dx e x y) 0 (Nat.sub h e)) 0 (Nat.sub w dx)
theorem cell_out (w h dx e x y : Nat) (ho : w ≤ x + dx ∨ h ≤ y + e) : cellN w h dx e x y = 0 := by
 have h1 : runN w h dx e 12 x y ≤ 1 := by
  rw [runN]
  split
  ·rw [runN, if_neg]
   ·omega
   ·simp only [Bool.and_eq_true, Nat.blt_eq]
    rintro ⟨e1, e2⟩
    have e1' : x + dx < w := e1
    have e2' : y + e < h := e2
    omega
  ·omega
 unfold cellN
 rw [if_neg (show ¬ Nat.ble 2 _ = true by rw [Nat.ble_eq]; omega), ite_self]
theorem slopeN_all (w h dx e : Nat) : sumR (fun x => sumR (fun y => cellN w h dx e x y) 0 h) 0 w = slopeN w h dx e := by
 unfold slopeN
 rw [sumR_cut _ w (Nat.sub w dx) (Nat.sub_le _ _) fun x h1 _ => sumR_none _ _ _ fun y => cell_out w h dx e x y (.inl (by have h2 : w - dx ≤ x := h1; omega))]
 refine sumR_ext _ _ _ 0 fun x _ _ => ?_
 exact sumR_cut _ h (Nat.sub h e) (Nat.sub_le _ _) fun y h1 _ => cell_out w h dx e x y (.inr (by have h2 : h - e ≤ y := h1; omega))
theorem cell_same (w h a b : Nat) (r n : Nat) (x y : Nat) (O : Bool) (hO : O = true ↔ ¬ (x < a ∨ y < b)) (hr : r = n) : (if O = true then 0 else if r > 1 then cF w h r else 0) = (if (Nat.blt x a || Nat.blt y b) = true then (if Nat.ble 2 n = true then cF w h n else 0) else 0) := by
 subst hr
 have e1 : ((Nat.blt x a || Nat.blt y b) = true) ↔ (x < a ∨ y < b) := by rw [Bool.or_eq_true, Nat.blt_eq, Nat.blt_eq]
 have e2 : (Nat.ble 2 r = true) ↔ r > 1 := by rw [Nat.ble_eq]; omega
 by_cases c : x < a ∨ y < b
 ·have n1 : ¬ O = true := fun e => hO.1 e c
  by_cases g : r > 1
  ·simp only [n1, e1.2 c, e2.2 g, g, if_true, if_false, Bool.false_eq_true]
  ·simp only [n1, e1.2 c, g, show ¬ Nat.ble 2 r = true from fun q => g (e2.1 q), if_true, if_false, Bool.false_eq_true]
 ·have n2 : ¬ (Nat.blt x a || Nat.blt y b) = true := fun e => c (e1.1 e)
  simp only [hO.2 c, n2, if_true, if_false, Bool.false_eq_true]
theorem slope_eq (w h : Nat) (dx dy : Int) (hdx : 0 ≤ dx) : sumC (lineC w h dx dy) (zl h 0 w) = slopeN w h dx.toNat dy.natAbs := by
 rw [sumC_rows, ← slopeN_all]
 obtain ⟨a, rfl⟩ : ∃ a : Nat, dx = a := ⟨dx.toNat, by omega⟩
 refine sumR_ext _ _ w 0 fun x _ hx => ?_
 rw [show (a : Int).toNat = a from rfl]
 by_cases s : 0 ≤ dy
 ·obtain ⟨b, rfl⟩ : ∃ b : Nat, dy = b := ⟨dy.toNat, by omega⟩
  rw [show (b : Int).natAbs = b from rfl]
  refine sumR_ext _ _ h 0 fun y _ hy => ?_
  unfold lineC cellN
  exact cell_same w h a b _ _ x y _ (by unfold onB; rw [decide_eq_true_eq]; show (_ ∧ _) ∧ (_ ∧ _) ↔ _; dsimp only; omega) (run_up w h a b 12 x y)
 ·obtain ⟨b, rfl⟩ : ∃ b : Nat, dy = -(b : Int) := ⟨dy.natAbs, by omega⟩
  rw [show (-(b : Int)).natAbs = b by omega]
  rw [← sumR_turn (fun y => cellN w h a b x y) h]
  refine sumR_ext _ _ h 0 fun y _ hy => ?_
  unfold lineC cellN
  have := run_down w h a b 12 x (h - 1 - y)
  rw [show (h : Int) - 1 - ((h - 1 - y : Nat) : Int) = y by omega] at this
  exact cell_same w h a b _ _ x (h - 1 - y) _ (by unfold onB; rw [decide_eq_true_eq]; dsimp only; omega) this
/-- A list of slopes that lines may be gone along. -/
def slopesGood (o : Option (List S36)) : Bool :=
 match o with
 | none => false
 | some L => decide (L.length ≤ 1000) && L.all fun s => decide ((0 ≤ s.f0 ∧ s.f0 ≤ 12) ∧ (-12 ≤ s.f1 ∧ s.f1 ≤ 12) ∧ (1 ≤ s.f0 ∨ (s.f0 = 0 ∧ 1 ≤ s.f1)))
theorem slopes_ok : ∀ a b : Fin 12, slopesGood (zh.f 400 ((a.val : Int) + 1) ((b.val : Int) + 1)) = true := by decide +kernel
/-- The sum over all slopes of a list. -/
def totalN (w h : Nat) : List S36 → Nat
 | [] => 0
 | s :: l => Nat.add (slopeN w h s.f0.toNat s.f1.natAbs) (totalN w h l)
theorem total_eq (w h : Nat) (L : List S36) (hs : ∀ s ∈ L, 0 ≤ s.f0) : sumC (fun s => sumC (lineC w h s.f0 s.f1) (zl h 0 w)) L = totalN w h L := by
 induction L with
 | nil => rfl
 | cons s l ih => rw [sumC, totalN, slope_eq w h s.f0 s.f1 (hs s (by simp)), ih fun q hq => hs q (by simp [hq])]; rfl
def totalB (a b : Nat) : Nat := totalN (a + 1) (b + 1) ((zh.f 400 ((a : Int) + 1) ((b : Int) + 1)).getD [])
theorem straight_eq (k : Nat) (a b : Fin 12) (hk : 21000000 ≤ k) : qL.f k ((a.val : Int) + 1) ((b.val : Int) + 1) 0  = some ((totalB a.val b.val : Nat) : Int) := by
 have h := slopes_ok a b
 cases hL : zh.f 400 ((a.val : Int) + 1) ((b.val : Int) + 1) with
 | none => rw [hL] at h; exact absurd h (by decide)
 | some L =>
  rw [hL] at h
  unfold slopesGood at h
  simp only [Bool.and_eq_true, decide_eq_true_eq, List.all_eq_true] at h
  unfold qL.f totalB
  rw [xv (g := fun k => zh.f k _ _) (zh.mono _ _) (show 400 ≤ k by omega) hL]
  rw [hL, Option.bind_some, Option.getD_some]
  have h1 := straight_l0 (a.val + 1) (b.val + 1) (by omega) (by omega) L h.1 h.2 L.length k 0 0 (by omega) (by omega)
  rw [List.drop_zero] at h1
  have hm : (a.val + 1) * (b.val + 1) ≤ 12 * 12 := Nat.mul_le_mul (by omega) (by omega)
  have h2 := straight_sum (a.val + 1) (b.val + 1) (by omega) L 0 (by omega)
  rw [Nat.zero_add, total_eq _ _ L fun s hs => (h.2 s hs).1.1] at h2
  exact h1.trans (congrArg some h2)
/-- Numbers of a board as small ones. -/
theorem fins (w h : Int) (c : (1 ≤ w ∧ w ≤ 12) ∧ (1 ≤ h ∧ h ≤ 12)) : ∃ a b : Fin 12, w = (a.val : Int) + 1 ∧ h = (b.val : Int) + 1 :=
 ⟨⟨(w - 1).toNat, by omega⟩, ⟨(h - 1).toNat, by omega⟩, by show w = (((w - 1).toNat : Nat) : Int) + 1; omega, by show h = (((h - 1).toNat : Nat) : Int) + 1; omega⟩
/-- A peg near by. -/
def inB (p : S36) : Prop := (-((100 : Nat) : Int) ≤ p.f0 ∧ p.f0 ≤ ((100 : Nat) : Int)) ∧ (-((100 : Nat) : Int) ≤ p.f1 ∧ p.f1 ≤ ((100 : Nat) : Int))
theorem area_small {a b c : S36} (ha : inB a) (hb : inB b) (hc : inB c) : -100000 ≤ tri a.f0 a.f1 b.f0 b.f1 c.f0 c.f1 ∧ tri a.f0 a.f1 b.f0 b.f1 c.f0 c.f1 ≤ 100000 := by
 unfold inB at ha hb hc
 unfold tri
 have q1 := mul_bd 200 200 (x := b.f0 - a.f0) (y := c.f1 - a.f1) (by omega) (by omega)
 have q2 := mul_bd 200 200 (x := b.f1 - a.f1) (y := c.f0 - a.f0) (by omega) (by omega)
 omega
abbrev visA := Int
theorem mul_self_nonneg' (x : Int) : 0 ≤ x * x := by
 rcases Int.le_total 0 x with h | h
 ·exact Int.mul_nonneg h h
 ·exact Int.mul_nonneg_of_nonpos_of_nonpos h h
def sqd (a b : S36) : Int := (a.f0 - b.f0) * (a.f0 - b.f0) + (a.f1 - b.f1) * (a.f1 - b.f1)
def isRight (a b c : S36) : Bool := !(tri a.f0 a.f1 b.f0 b.f1 c.f0 c.f1 == 0) && (sqd b c + sqd c a + sqd a b == 2 * mx (mx (sqd b c) (sqd c a)) (sqd a b))
def cT (a b c : S36) : Nat := if isRight a b c = true then 1 else 0
def visT (_tw : Int) (a b c : S36) (acc : Int) : Int := if isRight a b c = true then wrap64 (acc + 1) else acc
theorem cT_le (a b c : S36) : cT a b c ≤ 1 := by unfold cT; split <;> omega
theorem visT_nat (tw : Int) (a b c : S36) (acc : Nat) (h : acc ≤ 1000000000000) : visT tw a b c (acc : Int) = ((acc + cT a b c : Nat) : Int) := by
 unfold visT cT
 split
 ·rw [w64 (by omega) (by omega)]; rfl
 ·rfl
theorem sqd_bd {a b : S36} (ha : inB a) (hb : inB b) : zU.f (a.f0 - b.f0) (a.f1 - b.f1) = some (sqd a b) ∧ (0 ≤ sqd a b ∧ sqd a b ≤ 80000) := by
 unfold inB at ha hb
 have q1 := mul_bd 200 200 (x := a.f0 - b.f0) (y := a.f0 - b.f0) (by omega) (by omega)
 have q2 := mul_bd 200 200 (x := a.f1 - b.f1) (y := a.f1 - b.f1) (by omega) (by omega)
 have n1 : 0 ≤ (a.f0 - b.f0) * (a.f0 - b.f0) := mul_self_nonneg' _
 have n2 : 0 ≤ (a.f1 - b.f1) * (a.f1 - b.f1) := mul_self_nonneg' _
 unfold zU.f sqd
 rw [w64 (x := (a.f0 - b.f0) * (a.f0 - b.f0)) (by omega) (by omega), w64 (x := (a.f1 - b.f1) * (a.f1 - b.f1)) (by omega) (by omega), w64 (by omega) (by omega)]
 exact ⟨rfl, by omega, by omega⟩
theorem less_eq {a b : S36} (ha : inB a) (hb : inB b) : zA.f a.f0 a.f1 b.f0 b.f1 = some (a.f0 - b.f0, a.f1 - b.f1) := by
 unfold inB at ha hb
 unfold zA.f
 rw [w64 (x := a.f0 - b.f0) (by omega) (by omega), w64 (x := a.f1 - b.f1) (by omega) (by omega)]
theorem sides_eq {a b c : S36} (ha : inB a) (hb : inB b) (hc : inB c) : jn.f [(⟨a.f0, a.f1⟩ : S36), (⟨b.f0, b.f1⟩ : S36), (⟨c.f0, c.f1⟩ : S36)] = some [sqd b c, sqd c a, sqd a b] := by
 have r0 : qb [(⟨a.f0, a.f1⟩ : S36), (⟨b.f0, b.f1⟩ : S36), (⟨c.f0, c.f1⟩ : S36)] 0 = a := rfl
 have r1 : qb [(⟨a.f0, a.f1⟩ : S36), (⟨b.f0, b.f1⟩ : S36), (⟨c.f0, c.f1⟩ : S36)] 1 = b := rfl
 have r2 : qb [(⟨a.f0, a.f1⟩ : S36), (⟨b.f0, b.f1⟩ : S36), (⟨c.f0, c.f1⟩ : S36)] 2 = c := rfl
 unfold jn.f
 rw [r0, r1, r2, if_pos (by simp), if_pos (by simp), less_eq hb hc, Option.bind_some, (sqd_bd hb hc).1, Option.bind_some, if_pos (by simp), less_eq hc ha, Option.bind_some, (sqd_bd hc ha).1, Option.bind_some, less_eq ha hb, Option.bind_some, (sqd_bd ha hb).1, Option.bind_some]
theorem visT_eq (tw : Int) (a b c : S36) (acc : Int) (ha : inB a) (hb : inB b) (hc : inB c) : zD.f a.f0 a.f1 b.f0 b.f1 c.f0 c.f1 acc = some (visT tw a b c acc) := by
 have s1 := (sqd_bd hb hc).2
 have s2 := (sqd_bd hc ha).2
 have s3 := (sqd_bd ha hb).2
 unfold zD.f
 rw [sides_eq ha hb hc, Option.bind_some]
 unfold inB at ha hb hc
 rw [turn_eq 100 (by omega) ha.1 ha.2 hb.1 hb.2 hc.1 hc.2, Option.bind_some]
 rw [show rd [sqd b c, sqd c a, sqd a b] 0 = sqd b c from rfl, show rd [sqd b c, sqd c a, sqd a b] 1 = sqd c a from rfl, show rd [sqd b c, sqd c a, sqd a b] 2 = sqd a b from rfl]
 have m1 : 0 ≤ mx (mx (sqd b c) (sqd c a)) (sqd a b) ∧ mx (mx (sqd b c) (sqd c a)) (sqd a b) ≤ 80000 := by unfold mx; split <;> split <;> omega
 rw [w64 (x := sqd b c + sqd c a) (by omega) (by omega), w64 (x := sqd b c + sqd c a + sqd a b) (by omega) (by omega), w64 (x := 2 * mx (mx (sqd b c) (sqd c a)) (sqd a b)) (by omega) (by omega)]
 rw [if_pos (show (0 : Int) < (([sqd b c, sqd c a, sqd a b] : List Int).length : Int) by simp), if_pos (show (1 : Int) < (([sqd b c, sqd c a, sqd a b] : List Int).length : Int) by simp), if_pos (show (2 : Int) < (([sqd b c, sqd c a, sqd a b] : List Int).length : Int) by simp)]
 unfold visT isRight
 by_cases g : tri a.f0 a.f1 b.f0 b.f1 c.f0 c.f1 = 0
 ·rw [if_pos g, if_neg (by simp [g])]
 ·rw [if_neg g]
  by_cases e : sqd b c + sqd c a + sqd a b = 2 * mx (mx (sqd b c) (sqd c a)) (sqd a b)
  ·rw [if_pos e, if_pos (by simp [g, e])]
  ·rw [if_neg e, if_neg (by simp [g, e])]
def T2 (tw : Int) (a b : S36) : List S36 → visA → visA
 | [], acc => acc
 | c :: l, acc => T2 tw a b l (visT tw a b c acc)
def T1 (tw : Int) (L : List S36) (a : S36) : Nat → Nat → visA → visA
 | 0, _, acc => acc
 | d + 1, j, acc => T1 tw L a d (j + 1) (T2 tw a (L.getD j z36) (L.take j) acc)
def T0 (tw : Int) (L : List S36) : Nat → Nat → visA → visA
 | 0, _, acc => acc
 | d + 1, i, acc => T0 tw L d (i + 1) (T1 tw L (L.getD i z36) i 0 acc)
def isRightS (a b c : S36) : Bool := (!(a.f0 == b.f0) || (!(a.f1 == b.f1))) && ((!(a.f0 == c.f0) || (!(a.f1 == c.f1))) && ((b.f0 - a.f0) * (c.f0 - a.f0) + (b.f1 - a.f1) * (c.f1 - a.f1) == 0))
def cS (a b c : S36) : Nat := if isRightS a b c = true then 1 else 0
def visS (_tw : Int) (a b c : S36) (acc : Int) : Int := if isRightS a b c = true then wrap64 (acc + 1) else acc
theorem cS_le (a b c : S36) : cS a b c ≤ 1 := by unfold cS; split <;> omega
theorem visS_nat (tw : Int) (a b c : S36) (acc : Nat) (h : acc ≤ 1000000000000) : visS tw a b c (acc : Int) = ((acc + cS a b c : Nat) : Int) := by
 unfold visS cS
 split
 ·rw [w64 (by omega) (by omega)]; rfl
 ·rfl
theorem right_ite {β : Type} (x y : Bool) (p : Prop) [Decidable p] (q : Bool) (hq : q = true ↔ p) (G : Int → β) (u v : Int) :
  (if x = true then (if y = true then (if p then G u else G v) else G v) else G v) = G (if (x && (y && q)) = true then u else v) := by
 cases x
 ·simp
 ·cases y
  ·simp
  ·by_cases h : p
   ·have := hq.2 h
    simp [h, this]
   ·have : q = false := by
     cases q
     ·rfl
     ·exact absurd (hq.1 rfl) h
    simp [h, this]
def S2 (tw : Int) (a b : S36) : List S36 → visA → visA
 | [], acc => acc
 | c :: l, acc => S2 tw a b l (visS tw a b c acc)
def S1 (tw : Int) (L : List S36) (a : S36) : Nat → Nat → visA → visA
 | 0, _, acc => acc
 | d + 1, j, acc => S1 tw L a d (j + 1) (S2 tw a (L.getD j z36) (L.take j) acc)
def S0 (tw : Int) (L : List S36) : Nat → Nat → visA → visA
 | 0, _, acc => acc
 | d + 1, i, acc => S0 tw L d (i + 1) (S1 tw L (L.getD i z36) L.length 0 acc)
theorem threes_l2 (tw : Int) (L : List S36) (n i : Int) (a b : S36) (ha : inB a) (hb : inB b) (C : List S36) (hC : ∀ p ∈ C, inB p) (hlen : C.length ≤ 100000) (K0 : Nat) (R : visA) (B : List S36) (nB x21 : Int) (d : Nat) :
  ∀ (k j : Nat) (acc : visA), j + d = C.length → K0 + d + 10 ≤ k →
  (∀ k', K0 ≤ k' → za.l1 k' L L n i B nB (wrap64 (x21 + 1)) (T2 tw a b (C.drop j) acc)  a.f0 a.f1 = some R) →
  za.l2 k L L n i B nB x21 C (C.length : Int) (j : Int) acc  a.f0 a.f1 b.f0 b.f1 = some R := by
 induction d with
 | zero =>
  intro k j acc hj hk hc
  obtain ⟨k, rfl⟩ : ∃ m, k = m + 1 := ⟨k - 1, by omega⟩
  have h1 := hc k (by omega)
  rw [List.drop_of_length_le (by omega)] at h1
  simp only [za.l2]
  rw [if_neg (by omega)]
  exact h1
 | succ d ih =>
  intro k j acc hj hk hc
  obtain ⟨k, rfl⟩ : ∃ m, k = m + 1 := ⟨k - 1, by omega⟩
  have hlt : j < C.length := by omega
  have hr : qb C (j : Int) = C[j] := by
   unfold qb
   simp [List.getD_eq_getElem?_getD, List.getElem?_eq_getElem hlt]
  have hp := hC C[j] (List.getElem_mem hlt)
  rw [List.drop_eq_getElem_cons hlt, T2] at hc
  simp only [za.l2]
  rw [if_pos (by omega), if_pos (by omega), if_pos (by omega), hr]
  rw [visT_eq tw a b C[j] acc ha hb hp, Option.bind_some, w64 (x := (j : Int) + 1) (by omega) (by omega)]
  exact ih k (j + 1) _ (by omega) (by omega) hc
theorem threes_l1 (tw : Int) (L : List S36) (hL : ∀ p ∈ L, inB p) (hlen : L.length ≤ 100000) (n : Int) (i m : Nat) (_hi : i ≤ L.length) (hm : m ≤ L.length) (a : S36) (ha : inB a) (K0 : Nat) (R : visA) (d : Nat) :
  ∀ (k j : Nat) (acc : visA), j + d = m → K0 + d * (L.length + 20) + 1 ≤ k →
  (∀ k', K0 ≤ k' → za.l0 k' L L n (wrap64 ((i : Int) + 1)) (T1 tw L a d j acc)  = some R) →
  za.l1 k L L n (i : Int) (L.take m) ((L.take m).length : Int) (j : Int) acc  a.f0 a.f1 = some R := by
 have hti : (L.take m).length = m := by rw [List.length_take]; omega
 induction d with
 | zero =>
  intro k j acc hj hk hc
  obtain ⟨k, rfl⟩ : ∃ m, k = m + 1 := ⟨k - 1, by omega⟩
  have h1 := hc k (by omega)
  rw [T1] at h1
  simp only [za.l1]
  rw [if_neg (by omega)]
  exact h1
 | succ d ih =>
  intro k j acc hj hk hc
  obtain ⟨k, rfl⟩ : ∃ m, k = m + 1 := ⟨k - 1, by omega⟩
  rw [Nat.succ_mul] at hk
  have hr : qb (L.take m) (j : Int) = L.getD j z36 := by
   unfold qb
   rw [List.getD_eq_getElem?_getD, List.getD_eq_getElem?_getD, List.getElem?_take]
   simp [show j < m by omega]
  have hp : inB (L.getD j z36) := by
   rw [List.getD_eq_getElem?_getD, List.getElem?_eq_getElem (by omega), Option.getD_some]
   exact hL _ (List.getElem_mem _)
  have htj : (L.take j).length = j := by rw [List.length_take]; omega
  rw [T1] at hc
  simp only [za.l1]
  rw [if_pos (by omega), if_pos (by omega), if_pos (by omega), if_pos (by omega), Option.bind_some, hr, show ((j : Int)).toNat = j from rfl]
  refine threes_l2 tw L _ _ a (L.getD j z36) ha hp (L.take j) (fun p h => hL p (List.mem_of_mem_take h)) (by omega) (K0 + d * (L.length + 20) + 1) R _ _ _ (L.take j).length k 0 acc (by omega) (by omega) fun k' hk' => ?_
  rw [w64 (x := (j : Int) + 1) (by omega) (by omega), List.drop_zero]
  exact ih k' (j + 1) _ (by omega) (by omega) hc
theorem threes_l0 (tw : Int) (L : List S36) (hL : ∀ p ∈ L, inB p) (hlen : L.length ≤ 2000) (d : Nat) : ∀ (k i : Nat) (acc : visA), i + d = L.length → d * 5000000 + 5 ≤ k →
  za.l0 k L L (L.length : Int) (i : Int) acc  = some (T0 tw L d i acc) := by
 induction d with
 | zero =>
  intro k i acc hi hk
  obtain ⟨k, rfl⟩ : ∃ m, k = m + 1 := ⟨k - 1, by omega⟩
  simp only [za.l0]
  rw [if_neg (by omega), T0]
 | succ d ih =>
  intro k i acc hi hk
  obtain ⟨k, rfl⟩ : ∃ m, k = m + 1 := ⟨k - 1, by omega⟩
  have hr : qb L (i : Int) = L.getD i z36 := by
   unfold qb
   rw [show ((i : Int)).toNat = i from rfl]
  have hp : inB (L.getD i z36) := by
   rw [List.getD_eq_getElem?_getD, List.getElem?_eq_getElem (by omega), Option.getD_some]
   exact hL _ (List.getElem_mem _)
  have hm : i * (L.length + 20) ≤ 2000 * 2020 := Nat.mul_le_mul (by omega) (by omega)
  rw [T0]
  simp only [za.l0]
  rw [if_pos (by omega), if_pos (by omega), if_pos (by omega), if_pos (by omega), Option.bind_some, hr, show ((i : Int)).toNat = i from rfl]
  have hgo := threes_l1 tw L hL (by omega) (L.length : Int) i i (by omega) (by omega) (L.getD i z36) hp (d * 5000000 + 5) (T0 tw L d (i + 1) (T1 tw L (L.getD i z36) i 0 acc)) i k 0 acc (by omega) (by omega) fun k' hk' => by
   rw [w64 (x := (i : Int) + 1) (by omega) (by omega)]
   exact ih k' (i + 1) _ (by omega) hk'
  exact hgo
theorem rightS_l2 (tw : Int) (L : List S36) (n i : Int) (a b : S36) (ha : inB a) (hb : inB b) (C : List S36) (hC : ∀ p ∈ C, inB p) (hlen : C.length ≤ 100000) (K0 : Nat) (R : Int × Bool) (B : List S36) (nB x21 : Int) (d : Nat) :
  ∀ (k j : Nat) (acc : visA), j + d = C.length → K0 + d + 10 ≤ k →
  (∀ k', K0 ≤ k' → qH.l1 k' (S2 tw a b (C.drop j) acc) L L n i B nB (wrap64 (x21 + 1)) a.f0 a.f1 = some R) →
  qH.l2 k acc L L n i B nB x21 C (C.length : Int) (j : Int) a.f0 a.f1 b.f0 b.f1 = some R := by
 induction d with
 | zero =>
  intro k j acc hj hk hc
  obtain ⟨k, rfl⟩ : ∃ m, k = m + 1 := ⟨k - 1, by omega⟩
  have h1 := hc k (by omega)
  rw [List.drop_of_length_le (by omega)] at h1
  simp only [qH.l2]
  rw [if_neg (by omega)]
  exact h1
 | succ d ih =>
  intro k j acc hj hk hc
  obtain ⟨k, rfl⟩ : ∃ m, k = m + 1 := ⟨k - 1, by omega⟩
  have hlt : j < C.length := by omega
  have hr : qb C (j : Int) = C[j] := by
   unfold qb
   simp [List.getD_eq_getElem?_getD, List.getElem?_eq_getElem hlt]
  have hp := hC C[j] (List.getElem_mem hlt)
  rw [List.drop_eq_getElem_cons hlt, S2] at hc
  simp only [qH.l2]
  rw [if_pos (by omega), if_pos (by omega), if_pos (by omega), hr]
  have hv : visS tw a b C[j] acc = if ((!(a.f0 == b.f0) || (!(a.f1 == b.f1))) && ((!(a.f0 == C[j].f0) || (!(a.f1 == C[j].f1))) && ((b.f0 - a.f0) * (C[j].f0 - a.f0) + (b.f1 - a.f1) * (C[j].f1 - a.f1) == 0))) = true then wrap64 (acc + 1) else acc := rfl
  rw [hv] at hc
  unfold inB at ha hb hp
  have q1 := mul_bd 200 200 (x := b.f0 - a.f0) (y := C[j].f0 - a.f0) (by omega) (by omega)
  have q2 := mul_bd 200 200 (x := b.f1 - a.f1) (y := C[j].f1 - a.f1) (by omega) (by omega)
  rw [w64 (x := (j : Int) + 1) (by omega) (by omega), w64 (x := b.f0 - a.f0) (by omega) (by omega), w64 (x := C[j].f0 - a.f0) (by omega) (by omega), w64 (x := b.f1 - a.f1) (by omega) (by omega), w64 (x := C[j].f1 - a.f1) (by omega) (by omega), w64 (x := (b.f0 - a.f0) * (C[j].f0 - a.f0)) (by omega) (by omega), w64 (x := (b.f1 - a.f1) * (C[j].f1 - a.f1)) (by omega) (by omega), w64 (x := (b.f0 - a.f0) * (C[j].f0 - a.f0) + (b.f1 - a.f1) * (C[j].f1 - a.f1)) (by omega) (by omega)]
  exact (right_ite _ _ _ _ beq_iff_eq (fun t => qH.l2 k t L L n i B nB x21 C (C.length : Int) ((j : Int) + 1) a.f0 a.f1 b.f0 b.f1) (wrap64 (acc + 1)) acc).trans (ih k (j + 1) _ (by omega) (by omega) hc)
theorem rightS_l1 (tw : Int) (L : List S36) (hL : ∀ p ∈ L, inB p) (hlen : L.length ≤ 100000) (n : Int) (i m : Nat) (_hi : i ≤ L.length) (hm : m ≤ L.length) (a : S36) (ha : inB a) (K0 : Nat) (R : Int × Bool) (d : Nat) :
  ∀ (k j : Nat) (acc : visA), j + d = m → K0 + d * (L.length + 20) + 1 ≤ k →
  (∀ k', K0 ≤ k' → qH.l0 k' (S1 tw L a d j acc) L L n (wrap64 ((i : Int) + 1)) = some R) →
  qH.l1 k acc L L n (i : Int) (L.take m) ((L.take m).length : Int) (j : Int) a.f0 a.f1 = some R := by
 have hti : (L.take m).length = m := by rw [List.length_take]; omega
 induction d with
 | zero =>
  intro k j acc hj hk hc
  obtain ⟨k, rfl⟩ : ∃ m, k = m + 1 := ⟨k - 1, by omega⟩
  have h1 := hc k (by omega)
  rw [S1] at h1
  simp only [qH.l1]
  rw [if_neg (by omega)]
  exact h1
 | succ d ih =>
  intro k j acc hj hk hc
  obtain ⟨k, rfl⟩ : ∃ m, k = m + 1 := ⟨k - 1, by omega⟩
  rw [Nat.succ_mul] at hk
  have hr : qb (L.take m) (j : Int) = L.getD j z36 := by
   unfold qb
   rw [List.getD_eq_getElem?_getD, List.getD_eq_getElem?_getD, List.getElem?_take]
   simp [show j < m by omega]
  have hp : inB (L.getD j z36) := by
   rw [List.getD_eq_getElem?_getD, List.getElem?_eq_getElem (by omega), Option.getD_some]
   exact hL _ (List.getElem_mem _)
  have htj : (L.take j).length = j := by rw [List.length_take]; omega
  rw [S1] at hc
  simp only [qH.l1]
  rw [if_pos (by omega), if_pos (by omega), if_pos (by omega), if_pos (by omega), Option.bind_some, hr, show ((j : Int)).toNat = j from rfl]
  refine rightS_l2 tw L _ _ a (L.getD j z36) ha hp (L.take j) (fun p h => hL p (List.mem_of_mem_take h)) (by omega) (K0 + d * (L.length + 20) + 1) R _ _ _ (L.take j).length k 0 acc (by omega) (by omega) fun k' hk' => ?_
  rw [w64 (x := (j : Int) + 1) (by omega) (by omega), List.drop_zero]
  exact ih k' (j + 1) _ (by omega) (by omega) hc
theorem rightS_l0 (tw : Int) (L : List S36) (hL : ∀ p ∈ L, inB p) (hlen : L.length ≤ 2000) (d : Nat) : ∀ (k i : Nat) (acc : visA), i + d = L.length → d * 5000000 + 5 ≤ k →
  qH.l0 k acc L L (L.length : Int) (i : Int) = some ((S0 tw L d i acc), true) := by
 induction d with
 | zero =>
  intro k i acc hi hk
  obtain ⟨k, rfl⟩ : ∃ m, k = m + 1 := ⟨k - 1, by omega⟩
  simp only [qH.l0]
  rw [if_neg (by omega), S0]
 | succ d ih =>
  intro k i acc hi hk
  obtain ⟨k, rfl⟩ : ∃ m, k = m + 1 := ⟨k - 1, by omega⟩
  have hr : qb L (i : Int) = L.getD i z36 := by
   unfold qb
   rw [show ((i : Int)).toNat = i from rfl]
  have hp : inB (L.getD i z36) := by
   rw [List.getD_eq_getElem?_getD, List.getElem?_eq_getElem (by omega), Option.getD_some]
   exact hL _ (List.getElem_mem _)
  have hm : L.length * (L.length + 20) ≤ 2000 * 2020 := Nat.mul_le_mul (by omega) (by omega)
  rw [S0]
  simp only [qH.l0]
  rw [if_pos (by omega), if_pos (by omega), if_pos (by omega), hr]
  have hgo := rightS_l1 tw L hL (by omega) (L.length : Int) i L.length (by omega) (by omega) (L.getD i z36) hp (d * 5000000 + 5) ((S0 tw L d (i + 1) (S1 tw L (L.getD i z36) L.length 0 acc)), true) L.length k 0 acc (by omega) (by omega) fun k' hk' => by
   rw [w64 (x := (i : Int) + 1) (by omega) (by omega)]
   exact ih k' (i + 1) _ (by omega) hk'
  rw [List.take_length] at hgo
  exact hgo
theorem ctBoardM (w h m : Int) (_hm : 0 ≤ m ∧ m ≤ 100) : zx.f w h m = some (decide ((1 ≤ w ∧ w ≤ m) ∧ (1 ≤ h ∧ h ≤ m))) := by
 unfold zx.f
 simp only [in_eq, Option.bind_some]
 by_cases c : 1 ≤ w ∧ w ≤ m
 ·simp [c]
 ·simp [c]
theorem isBoardM (w h m : Int) (_hm : 0 ≤ m ∧ m ≤ 100) : zy.f w h m = some (decide ((1 ≤ w ∧ w ≤ m) ∧ (1 ≤ h ∧ h ≤ m))) := by
 unfold zy.f
 simp only [within_eq, Option.bind_some]
 by_cases c : 1 ≤ w ∧ w ≤ m
 ·simp [c]
 ·simp [c]
def CT2 (a b : S36) : List S36 → Nat
 | [] => 0
 | c :: l => Nat.add (cT a b c) (CT2 a b l)
def CT1 (L : List S36) (a : S36) : Nat → Nat → Nat
 | 0, _ => 0
 | d + 1, j => Nat.add (CT2 a (L.getD j z36) (L.take j)) (CT1 L a d (j + 1))
def CT0 (L : List S36) : Nat → Nat → Nat
 | 0, _ => 0
 | d + 1, i => Nat.add (CT1 L (L.getD i z36) i 0) (CT0 L d (i + 1))
theorem CT2_le (a b : S36) (l : List S36) : CT2 a b l ≤ l.length := by
 induction l with
 | nil => exact Nat.le_refl _
 | cons c l ih =>
  have := cT_le a b c
  show cT a b c + CT2 a b l ≤ l.length + 1
  omega
theorem CT1_le (L : List S36) (a : S36) (d : Nat) : ∀ j, CT1 L a d j ≤ d * L.length := by
 induction d with
 | zero => intro j; exact Nat.zero_le _
 | succ d ih =>
  intro j
  have h1 := CT2_le a (L.getD j z36) (L.take j)
  have h2 := ih (j + 1)
  rw [List.length_take] at h1
  rw [Nat.succ_mul]
  show CT2 a (L.getD j z36) (L.take j) + CT1 L a d (j + 1) ≤ _
  omega
theorem T2_nat (tw : Int) (a b : S36) (l : List S36) : ∀ acc : Nat, acc + l.length ≤ 1000000000000 → T2 tw a b l (acc : Int) = ((acc + CT2 a b l : Nat) : Int) := by
 induction l with
 | nil => intro acc _; rfl
 | cons c l ih =>
  intro acc h
  have h1 := cT_le a b c
  rw [List.length_cons] at h
  rw [T2, visT_nat tw a b c acc (by omega), ih _ (by omega)]
  show (((acc + cT a b c) + CT2 a b l : Nat) : Int) = ((acc + (cT a b c + CT2 a b l) : Nat) : Int)
  rw [Nat.add_assoc]
theorem T1_nat (tw : Int) (L : List S36) (a : S36) (d : Nat) : ∀ (j acc : Nat), acc + d * L.length ≤ 1000000000000 → T1 tw L a d j (acc : Int) = ((acc + CT1 L a d j : Nat) : Int) := by
 induction d with
 | zero => intro j acc _; rfl
 | succ d ih =>
  intro j acc h
  rw [Nat.succ_mul] at h
  have h1 := CT2_le a (L.getD j z36) (L.take j)
  rw [List.length_take] at h1
  rw [T1, T2_nat tw a (L.getD j z36) (L.take j) acc (by rw [List.length_take]; omega), ih (j + 1) _ (by omega)]
  show (((acc + CT2 a (L.getD j z36) (L.take j)) + CT1 L a d (j + 1) : Nat) : Int) = ((acc + (CT2 a (L.getD j z36) (L.take j) + CT1 L a d (j + 1)) : Nat) : Int)
  rw [Nat.add_assoc]
theorem T0_nat (tw : Int) (L : List S36) (M : Nat) (hM : L.length * L.length ≤ M) (d : Nat) : ∀ (i acc : Nat), i + d = L.length → acc + d * M ≤ 1000000000000 → T0 tw L d i (acc : Int) = ((acc + CT0 L d i : Nat) : Int) := by
 induction d with
 | zero => intro i acc _ _; rfl
 | succ d ih =>
  intro i acc hi h
  rw [Nat.succ_mul] at h
  have h1 := CT1_le L (L.getD i z36) i 0
  have h2 : i * L.length ≤ L.length * L.length := Nat.mul_le_mul_right _ (by omega)
  have h3 : acc + i * L.length ≤ 1000000000000 := by omega
  have h4 : acc + CT1 L (L.getD i z36) i 0 + d * M ≤ 1000000000000 := by omega
  rw [T0, T1_nat tw L (L.getD i z36) i 0 acc h3, ih (i + 1) _ (by omega) h4]
  show (((acc + CT1 L (L.getD i z36) i 0) + CT0 L d (i + 1) : Nat) : Int) = ((acc + (CT1 L (L.getD i z36) i 0 + CT0 L d (i + 1)) : Nat) : Int)
  rw [Nat.add_assoc]
def CS2 (a b : S36) : List S36 → Nat
 | [] => 0
 | c :: l => Nat.add (cS a b c) (CS2 a b l)
def CS1 (L : List S36) (a : S36) : Nat → Nat → Nat
 | 0, _ => 0
 | d + 1, j => Nat.add (CS2 a (L.getD j z36) (L.take j)) (CS1 L a d (j + 1))
def CS0 (L : List S36) : Nat → Nat → Nat
 | 0, _ => 0
 | d + 1, i => Nat.add (CS1 L (L.getD i z36) L.length 0) (CS0 L d (i + 1))
theorem CS2_le (a b : S36) (l : List S36) : CS2 a b l ≤ l.length := by
 induction l with
 | nil => exact Nat.le_refl _
 | cons c l ih =>
  have := cS_le a b c
  show cS a b c + CS2 a b l ≤ l.length + 1
  omega
theorem CS1_le (L : List S36) (a : S36) (d : Nat) : ∀ j, CS1 L a d j ≤ d * L.length := by
 induction d with
 | zero => intro j; exact Nat.zero_le _
 | succ d ih =>
  intro j
  have h1 := CS2_le a (L.getD j z36) (L.take j)
  have h2 := ih (j + 1)
  rw [List.length_take] at h1
  rw [Nat.succ_mul]
  show CS2 a (L.getD j z36) (L.take j) + CS1 L a d (j + 1) ≤ _
  omega
theorem S2_nat (tw : Int) (a b : S36) (l : List S36) : ∀ acc : Nat, acc + l.length ≤ 1000000000000 → S2 tw a b l (acc : Int) = ((acc + CS2 a b l : Nat) : Int) := by
 induction l with
 | nil => intro acc _; rfl
 | cons c l ih =>
  intro acc h
  have h1 := cS_le a b c
  rw [List.length_cons] at h
  rw [S2, visS_nat tw a b c acc (by omega), ih _ (by omega)]
  show (((acc + cS a b c) + CS2 a b l : Nat) : Int) = ((acc + (cS a b c + CS2 a b l) : Nat) : Int)
  rw [Nat.add_assoc]
theorem S1_nat (tw : Int) (L : List S36) (a : S36) (d : Nat) : ∀ (j acc : Nat), acc + d * L.length ≤ 1000000000000 → S1 tw L a d j (acc : Int) = ((acc + CS1 L a d j : Nat) : Int) := by
 induction d with
 | zero => intro j acc _; rfl
 | succ d ih =>
  intro j acc h
  rw [Nat.succ_mul] at h
  have h1 := CS2_le a (L.getD j z36) (L.take j)
  rw [List.length_take] at h1
  rw [S1, S2_nat tw a (L.getD j z36) (L.take j) acc (by rw [List.length_take]; omega), ih (j + 1) _ (by omega)]
  show (((acc + CS2 a (L.getD j z36) (L.take j)) + CS1 L a d (j + 1) : Nat) : Int) = ((acc + (CS2 a (L.getD j z36) (L.take j) + CS1 L a d (j + 1)) : Nat) : Int)
  rw [Nat.add_assoc]
theorem S0_nat (tw : Int) (L : List S36) (M : Nat) (hM : L.length * L.length ≤ M) (d : Nat) : ∀ (i acc : Nat), i + d = L.length → acc + d * M ≤ 1000000000000 → S0 tw L d i (acc : Int) = ((acc + CS0 L d i : Nat) : Int) := by
 induction d with
 | zero => intro i acc _ _; rfl
 | succ d ih =>
  intro i acc hi h
  rw [Nat.succ_mul] at h
  have h1 := CS1_le L (L.getD i z36) L.length 0
  have h2 : L.length * L.length ≤ L.length * L.length := Nat.mul_le_mul_right _ (by omega)
  have h3 : acc + L.length * L.length ≤ 1000000000000 := by omega
  have h4 : acc + CS1 L (L.getD i z36) L.length 0 + d * M ≤ 1000000000000 := by omega
  rw [S0, S1_nat tw L (L.getD i z36) L.length 0 acc h3, ih (i + 1) _ (by omega) h4]
  show (((acc + CS1 L (L.getD i z36) L.length 0) + CS0 L d (i + 1) : Nat) : Int) = ((acc + (CS1 L (L.getD i z36) L.length 0 + CS0 L d (i + 1)) : Nat) : Int)
  rw [Nat.add_assoc]
def allP (l : List S36) : Prop := ∀ q ∈ l, pegP q.f0 q.f1
theorem sortP_length (l : List S36) : (jY l).length = l.length := (sortP_perm l).length_eq
theorem sorted_eq (l : List S36) (hl : l.length ≤ 100000) : xc.f l = some (jY l) := by
 unfold xc.f zz.f zJ.f
 simp only [Option.bind_some, List.nil_append, List.length_nil]
 rw [if_pos (by omega), Option.bind_some, if_pos (by omega), Option.bind_some]
/-- Which way three pegs turn. -/
def turnP (a b c : S36) : Int := tri a.f0 a.f1 b.f0 b.f1 c.f0 c.f1
theorem pgTurnP_eq {a b c : S36} (ha : pegP a.f0 a.f1) (hb : pegP b.f0 b.f1) (hc : pegP c.f0 c.f1) : xm.f a.f0 a.f1 b.f0 b.f1 c.f0 c.f1 = some (turnP a b c) :=
 pgTurn_eq 40 (by omega) ha.1 ha.2 hb.1 hb.2 hc.1 hc.2
theorem turnP_eq {a b c : S36} (ha : pegP a.f0 a.f1) (hb : pegP b.f0 b.f1) (hc : pegP c.f0 c.f1) : ji.f a.f0 a.f1 b.f0 b.f1 c.f0 c.f1 = some (turnP a b c) :=
 turn_eq 40 (by omega) ha.1 ha.2 hb.1 hb.2 hc.1 hc.2
theorem ltP_trans {x y z : S36} (h1 : ltP x y = true) (h2 : ltP z y = false) : ltP x z = true := by
 unfold ltP at *
 rw [decide_eq_true_eq] at *
 rw [decide_eq_false_iff_not] at h2
 omega
theorem ltP_irrefl (x : S36) : ltP x x = false := by
 unfold ltP
 rw [decide_eq_false_iff_not]
 omega
theorem ltP_of_ne {x y : S36} (h : ltP y x = false) (hne : x ≠ y) : ltP x y = true := by
 cases h2 : ltP x y with
 | true => rfl
 | false => exact absurd (ltP_total h2 h) hne
theorem sorted_get (s : List S36) (hs : s.Pairwise fun a b => ltP b a = false) (i j : Nat) (hij : i ≤ j) (hj : j < s.length) : ltP s[j] (s[i]'(by omega)) = false := by
 rcases Nat.lt_or_ge i j with h | h
 ·exact List.pairwise_iff_getElem.1 hs i j (by omega) hj h
 ·have : i = j := by omega
  subst this
  exact ltP_irrefl _
theorem compact_facts (s : List S36) (hs : s.Pairwise fun a b => ltP b a = false) (m : Nat) : m ≤ s.length →
  (∀ x, x ∈ Go.Lib.compactUpTo s.toArray m ↔ x ∈ s.take m) ∧ ((Go.Lib.compactUpTo s.toArray m).Pairwise fun a b => ltP a b = true) := by
 induction m with
 | zero =>
  intro _
  refine ⟨fun x => ?_, ?_⟩
  ·simp [Go.Lib.compactUpTo]
  ·simp [Go.Lib.compactUpTo]
 | succ m ih =>
  intro hm
  obtain ⟨h1, h2⟩ := ih (by omega)
  have hg : s.toArray[m]! = s[m] := by rw [getElem!_pos s.toArray m (by simp; omega)]; simp
  rw [Go.Lib.compactUpTo_succ, List.take_add_one, List.getElem?_eq_getElem (by omega), Option.toList_some, hg]
  by_cases c : Go.Lib.keeps s.toArray m = true
  ·rw [if_pos c]
   refine ⟨fun x => by rw [List.mem_append, List.mem_append, h1], ?_⟩
   rw [List.pairwise_append]
   refine ⟨h2, List.pairwise_singleton _ _, fun x hx y hy => ?_⟩
   obtain rfl := List.mem_singleton.1 hy
   obtain ⟨i, hi, rfl⟩ := List.getElem_of_mem ((h1 x).1 hx)
   rw [List.length_take] at hi
   rw [List.getElem_take]
   have hm0 : 0 < m := by omega
   have hne : s[m] ≠ s[m - 1] := by
    unfold Go.Lib.keeps at c
    rw [decide_eq_true_eq] at c
    rcases c with c | c
    ·omega
    ·rw [hg, getElem!_pos s.toArray (m - 1) (by simp; omega)] at c
     simpa using c
   have hlt : ltP s[m - 1] s[m] = true := ltP_of_ne (sorted_get s hs (m - 1) m (by omega) (by omega)) (Ne.symm hne)
   cases hq : ltP s[i] s[m] with
   | true => rfl
   | false =>
    have h3 := sorted_get s hs i (m - 1) (by omega) (by omega)
    have h4 := ltP_trans hlt hq
    rw [h3] at h4
    exact absurd h4 (by decide)
  ·rw [if_neg c]
   have hm0 : m ≠ 0 := by
    rintro rfl
    exact c (by simp [Go.Lib.keeps])
   have he : s[m] = s[m - 1] := by
    unfold Go.Lib.keeps at c
    rw [decide_eq_true_eq, not_or, Classical.not_not, hg, getElem!_pos s.toArray (m - 1) (by simp; omega)] at c
    simpa using c.2
   refine ⟨fun x => ?_, by simpa using h2⟩
   rw [List.append_nil, h1, List.mem_append, List.mem_singleton]
   refine ⟨.inl, fun h => h.elim id fun h => ?_⟩
   rw [h, he, List.mem_take_iff_getElem]
   exact ⟨m - 1, by omega, rfl⟩
theorem strict_nodup (l : List S36) (h : l.Pairwise fun a b => ltP a b = true) : l.Nodup := by
 refine List.Pairwise.imp ?_ h
 intro a b hab he
 subst he
 rw [ltP_irrefl] at hab
 exact absurd hab (by decide)
theorem strict_sorted (l : List S36) (h : l.Pairwise fun a b => ltP a b = true) : l.Pairwise fun a b => ltP b a = false := by
 refine List.Pairwise.imp ?_ h
 intro a b hab
 unfold ltP at *
 rw [decide_eq_true_eq] at hab
 rw [decide_eq_false_iff_not]
 omega
/-- Pegs in order, each once. -/
def setP (l : List S36) : List S36 := Go.Lib.compactUpTo (jY l).toArray (jY l).length
theorem setP_mem (l : List S36) (x : S36) : x ∈ setP l ↔ x ∈ l := by
 have := (compact_facts (jY l) (xE l) (jY l).length (Nat.le_refl _)).1 x
 rw [List.take_length] at this
 exact this.trans (sortP_perm l).mem_iff
theorem setP_nodup (l : List S36) : (setP l).Nodup := strict_nodup _ (compact_facts (jY l) (xE l) (jY l).length (Nat.le_refl _)).2
theorem setP_sorted (l : List S36) : (setP l).Pairwise fun a b => ltP b a = false := strict_sorted _ (compact_facts (jY l) (xE l) (jY l).length (Nat.le_refl _)).2
theorem setP_eq (l m : List S36) (hm : m.Nodup) (h : ∀ x, x ∈ m ↔ x ∈ l) : setP l = jY m :=
 sorted_one (((List.perm_ext_iff_of_nodup (setP_nodup l) hm).2 fun x => (setP_mem l x).trans (h x).symm).trans (sortP_perm m).symm) (setP_sorted l) (xE m)
theorem setP_length (l : List S36) : (setP l).length = l.length ↔ l.Nodup := by
 constructor
 ·intro h
  have hle : ∀ n, n ≤ (jY l).length → (∃ j, j < n ∧ Go.Lib.keeps (jY l).toArray j = false) → (Go.Lib.compactUpTo (jY l).toArray n).length < n := by
   intro n
   induction n with
   | zero => rintro _ ⟨j, hj, _⟩; omega
   | succ n ih =>
    rintro hn ⟨j, hj, hk⟩
    rw [Go.Lib.compactUpTo_succ, List.length_append]
    have hc : (Go.Lib.compactUpTo (jY l).toArray n).length ≤ n := by
     unfold Go.Lib.compactUpTo
     rw [List.length_map]
     exact Nat.le_trans (List.length_filter_le _ _) (by simp)
    by_cases e : j = n
    ·subst e
     rw [hk]
     simp
     omega
    ·have := ih (by omega) ⟨j, by omega, hk⟩
     split <;> simp <;> omega
  have hall : ∀ j, j < (jY l).length → Go.Lib.keeps (jY l).toArray j = true := by
   intro j hj
   cases hk : Go.Lib.keeps (jY l).toArray j with
   | true => rfl
   | false =>
    have := hle (jY l).length (Nat.le_refl _) ⟨j, hj, hk⟩
    unfold setP at h
    rw [h, sortP_length] at this
    omega
  have he : setP l = jY l := by
   unfold setP
   have := Go.Lib.compact_all (jY l) hall
   exact this
  have := setP_nodup l
  rw [he] at this
  exact (sortP_perm l).nodup_iff.1 this
 ·intro h
  rw [setP_eq l l h (fun _ => Iff.rfl), sortP_length]
theorem samePeg_iff (p q : S36) : samePeg p q = true ↔ p = q := by
 unfold samePeg
 rw [Bool.and_eq_true, beq_iff_eq, beq_iff_eq]
 constructor
 ·rintro ⟨h1, h2⟩
  cases p; cases q
  simp only at h1 h2
  rw [h1, h2]
 ·rintro rfl
  exact ⟨rfl, rfl⟩
theorem distFrom_iff (l : List S36) : ∀ pre : List S36, jT pre l = true ↔ (∀ q ∈ l, q ∉ pre) ∧ l.Nodup := by
 induction l with
 | nil => intro pre; simp [jT]
 | cons p r ih =>
  intro pre
  have hany : pre.any (samePeg p) = true ↔ p ∈ pre := by
   rw [List.any_eq_true]
   constructor
   ·rintro ⟨q, hq, hs⟩
    rw [samePeg_iff] at hs
    subst hs
    exact hq
   ·intro h
    exact ⟨p, h, (samePeg_iff p p).2 rfl⟩
  unfold jT
  rw [Bool.and_eq_true, ih, Bool.not_eq_true', ← Bool.not_eq_true, hany, List.nodup_cons]
  constructor
  ·rintro ⟨h1, h2, h3⟩
   refine ⟨fun q hq => ?_, ?_, h3⟩
   ·rcases List.mem_cons.1 hq with rfl | hq
    ·exact h1
    ·exact fun h => h2 q hq (List.mem_append_left _ h)
   ·exact fun h => h2 p h (by simp)
  ·rintro ⟨h1, h2, h3⟩
   refine ⟨h1 p (by simp), fun q hq h => ?_, h3⟩
   rcases List.mem_append.1 h with h | h
   ·exact h1 q (List.mem_cons_of_mem _ hq) h
   ·obtain rfl := List.mem_singleton.1 h
    exact h2 hq
theorem goodB_iff (l : List S36) : goodB l = true ↔ (1 ≤ l.length ∧ l.length ≤ 30) ∧ allP l ∧ l.Nodup := by
 unfold goodB
 rw [Bool.and_eq_true, Bool.and_eq_true, decide_eq_true_eq, List.all_eq_true, distFrom_iff]
 have e : (∀ x ∈ l, pegB x = true) ↔ allP l := by
  unfold allP pegB
  simp
 rw [e]
 simp
theorem tri_cyc (ax ay bx by_ px py : Int) : tri px py ax ay bx by_ = tri ax ay bx by_ px py := by
 unfold tri
 grind
/-- Do two of the first ones stand in a line with p? -/
def pairAny (L : List S36) (p : S36) : Nat → Nat → Bool
 | 0, _ => false
 | d + 1, j => (L.take j).any (fun c => turnP p (L.getD j z36) c == 0) || pairAny L p d (j + 1)
def xa (L : List S36) : Nat → Nat → Bool
 | 0, _ => false
 | d + 1, i => pairAny L (L.getD i z36) i 0 || xa L d (i + 1)
/-- The same, as the reference looks for it. -/
def xA (L : List S36) (p : S36) : Nat → Nat → Bool
 | 0, _ => false
 | d + 1, i => (L.take i).any (fun b => turnP (L.getD i z36) b p == 0) || xA L p d (i + 1)
theorem ctFits_in (L : List S36) (n i : Int) (p a : S36) (hp : pegP p.f0 p.f1) (ha : pegP a.f0 a.f1) (B : List S36) (hB : allP B) (hlen : B.length ≤ 100000) (K0 : Nat) (R : Bool)
  (hc : ∀ k, K0 ≤ k → zc.l0 k L L n (wrap64 (i + 1)) p.f0 p.f1 = some R) (d : Nat) : ∀ (k j : Nat), j + d = B.length → K0 + d + 1 ≤ k →
  zc.l1 k L L n i B (B.length : Int) (j : Int) p.f0 p.f1 a.f0 a.f1 = some (!((B.drop j).any (fun b => turnP a b p == 0)) && R) := by
 induction d with
 | zero =>
  intro k j hj hk
  obtain ⟨k, rfl⟩ : ∃ m, k = m + 1 := ⟨k - 1, by omega⟩
  simp only [zc.l1]
  rw [if_neg (by omega), hc k (by omega), List.drop_of_length_le (by omega)]
  rfl
 | succ d ih =>
  intro k j hj hk
  obtain ⟨k, rfl⟩ : ∃ m, k = m + 1 := ⟨k - 1, by omega⟩
  have hlt : j < B.length := by omega
  simp only [zc.l1]
  rw [if_pos (by omega), if_pos (by omega), if_pos (by omega), xb B j hlt, pgTurnP_eq ha (hB _ (List.getElem_mem hlt)) hp, Option.bind_some, List.drop_eq_getElem_cons hlt, List.any_cons]
  by_cases c : turnP a B[j] p = 0
  ·rw [if_pos c, show (turnP a B[j] p == 0) = true from beq_iff_eq.mpr c]
   rfl
  ·rw [if_neg c, show (turnP a B[j] p == 0) = false from beq_eq_false_iff_ne.mpr c, Bool.false_or, w64 (by omega) (by omega)]
   exact ih k (j + 1) (by omega) (by omega)
theorem fits_arith (d i k n : Nat) (h : (d + 1) * 1010 + 1 ≤ k + 1) (h2 : i + (d + 1) = n) (h3 : n ≤ 1000) : d * 1010 + 1 + i + 1 ≤ k := by
 rw [Nat.succ_mul] at h
 generalize d * 1010 = x at *
 omega
theorem ctFits_loop (L : List S36) (hL : allP L) (hlen : L.length ≤ 1000) (p : S36) (hp : pegP p.f0 p.f1) (d : Nat) : ∀ (k i : Nat), i + d = L.length → d * 1010 + 1 ≤ k →
  zc.l0 k L L (L.length : Int) (i : Int) p.f0 p.f1 = some (!(xA L p d i)) := by
 induction d with
 | zero =>
  intro k i hi hk
  obtain ⟨k, rfl⟩ : ∃ m, k = m + 1 := ⟨k - 1, by omega⟩
  simp only [zc.l0]
  rw [if_neg (by omega)]
  rfl
 | succ d ih =>
  intro k i hi hk
  obtain ⟨k, rfl⟩ : ∃ m, k = m + 1 := ⟨k - 1, by omega⟩
  have hlt : i < L.length := by omega
  have e1 := fits_arith d i k L.length hk hi hlen
  have hg : L.getD i z36 = L[i] := by rw [List.getD_eq_getElem?_getD, List.getElem?_eq_getElem hlt, Option.getD_some]
  have ht : (L.take i).length = i := by rw [List.length_take]; omega
  simp only [zc.l0]
  rw [if_pos (by omega), if_pos (by omega), if_pos (by omega), if_pos (by omega), Option.bind_some, xb L i hlt, show ((i : Int)).toNat = i from rfl]
  have := ctFits_in L (L.length : Int) (i : Int) p L[i] hp (hL _ (List.getElem_mem hlt)) (L.take i) (fun q hq => hL q (List.mem_of_mem_take hq)) (by omega) (d * 1010 + 1) (!(xA L p d (i + 1))) (fun k hk => by
   rw [w64 (by omega) (by omega)]
   exact ih k (i + 1) (by omega) hk) i k 0 (by rw [ht]; omega) e1
  rw [show ((0 : Nat) : Int) = 0 from rfl, List.drop_zero] at this
  rw [this, xA, hg, Bool.not_or]
theorem ctFits_eq (k : Nat) (L : List S36) (hL : allP L) (hlen : L.length ≤ 1000) (p : S36) (hp : pegP p.f0 p.f1) (hk : L.length * 1010 + 1 ≤ k) : zc.f k L p.f0 p.f1 = some (!(xA L p L.length 0)) := by
 unfold zc.f
 have := ctFits_loop L hL hlen p hp L.length k 0 (by omega) hk
 simpa using this
theorem fit_pair (L : List S36) (p : S36) (n : Nat) (d : Nat) : ∀ j, j + d = n → xA (L.take n) p d j = pairAny L p d j := by
 induction d with
 | zero => intro j _; rfl
 | succ d ih =>
  intro j hj
  rw [xA, pairAny, ih (j + 1) (by omega)]
  have h1 : (L.take n).take j = L.take j := by rw [List.take_take, Nat.min_eq_left (by omega)]
  have h2 : (L.take n).getD j z36 = L.getD j z36 := by
   rw [List.getD_eq_getElem?_getD, List.getD_eq_getElem?_getD, List.getElem?_take_of_lt (by omega)]
  rw [h1, h2]
  congr 1
  congr 1
  funext c
  exact congrArg (· == (0 : Int)) (tri_cyc _ _ _ _ _ _).symm
theorem hasS_l2 (L : List S36) (hL : allP L) (hlen : L.length ≤ 100) (d : Nat) : ∀ (k i : Nat) (h : Bool), i + d = L.length → d + 200000 ≤ k →
  qI.l2 k L h L (L.length : Int) (i : Int) = some (h || xa L d i, true) := by
 induction d with
 | zero =>
  intro k i h hi hk
  obtain ⟨k, rfl⟩ : ∃ m, k = m + 1 := ⟨k - 1, by omega⟩
  simp only [qI.l2]
  rw [if_neg (by omega), xa, Bool.or_false]
 | succ d ih =>
  intro k i h hi hk
  obtain ⟨k, rfl⟩ : ∃ m, k = m + 1 := ⟨k - 1, by omega⟩
  have hlt : i < L.length := by omega
  have hg : L.getD i z36 = L[i] := by rw [List.getD_eq_getElem?_getD, List.getElem?_eq_getElem hlt, Option.getD_some]
  simp only [qI.l2]
  rw [if_pos (by omega), if_pos (by omega), if_pos (by omega)]
  by_cases c : h = true
  ·rw [if_pos c, w64 (by omega) (by omega), c]
   have := ih k (i + 1) true (by omega) (by omega)
   rw [Bool.true_or] at this
   rw [Bool.true_or]
   exact this
  ·have ht : (L.take i).length = i := by rw [List.length_take]; omega
   rw [if_neg c, if_pos (by omega), xb L i hlt, show ((i : Int)).toNat = i from rfl, ctFits_eq k (L.take i) (fun q hq => hL q (List.mem_of_mem_take hq)) (by omega) L[i] (hL _ (List.getElem_mem hlt)) (by rw [ht]; omega), Option.bind_some, w64 (by omega) (by omega), Bool.not_not, ht, fit_pair L L[i] i i 0 (by omega), Bool.eq_false_iff.mpr c, Bool.false_or]
   have := ih k (i + 1) (pairAny L L[i] i 0) (by omega) (by omega)
   rw [xa, hg]
   exact this
theorem hasS_in (l : List S36) (x4 : Bool) (n : Int) (p : S36) (pre : List S36) (hpre : pre.length ≤ 1048576) (K0 : Nat) (R : Bool × Bool) (i : Int)
  (d : Nat) : ∀ (k j : Nat), j + d = pre.length → K0 + d + 1 ≤ k → ((pre.drop j).any (samePeg p) = false → ∀ k, K0 ≤ k → qI.l0 k l x4 l n (wrap64 (i + 1)) = some R) →
  qI.l1 k l x4 l n i pre (pre.length : Int) (j : Int) p.f0 p.f1 = some (if (pre.drop j).any (samePeg p) = true then (false, false) else R) := by
 induction d with
 | zero =>
  intro k j hj hk hc
  obtain ⟨k, rfl⟩ : ∃ m, k = m + 1 := ⟨k - 1, by omega⟩
  rw [List.drop_of_length_le (by omega)] at hc ⊢
  simp only [qI.l1]
  rw [if_neg (by omega), hc rfl k (by omega)]
  rfl
 | succ d ih =>
  intro k j hj hk hc
  obtain ⟨k, rfl⟩ : ∃ m, k = m + 1 := ⟨k - 1, by omega⟩
  have hlt : j < pre.length := by omega
  simp only [qI.l1]
  rw [List.drop_eq_getElem_cons hlt, List.any_cons] at hc ⊢
  rw [if_pos (by omega), if_pos (by omega), if_pos (by omega), xb pre j hlt, show (p.f0 == pre[j].f0 && p.f1 == pre[j].f1) = samePeg p pre[j] from rfl]
  by_cases c : samePeg p pre[j] = true
  ·rw [if_pos c, c]
   rfl
  ·rw [Bool.eq_false_iff.mpr c, Bool.false_or] at hc
   rw [if_neg c, w64 (by omega) (by omega), Bool.eq_false_iff.mpr c, Bool.false_or]
   exact ih k (j + 1) (by omega) (by omega) hc
theorem hasS_loop (L : Nat) (hL : L ≤ 50) (R : Bool × Bool) (K0 : Nat) (r : List S36) : ∀ (pre : List S36) (k : Nat), pre.length + r.length = L → K0 + r.length * (L + 2) + 1 ≤ k →
  ((r.all pegB && jT pre r) = true → ∀ k, K0 ≤ k → qI.l2 k (pre ++ r) false (pre ++ r) ((pre ++ r).length : Int) 0 = some R) →
  qI.l0 k (pre ++ r) false (pre ++ r) (L : Int) (pre.length : Int) = some (if (r.all pegB && jT pre r) = true then R else (false, false)) := by
 induction r with
 | nil =>
  intro pre k h hk hc
  obtain ⟨k, rfl⟩ : ∃ m, k = m + 1 := ⟨k - 1, by omega⟩
  simp only [qI.l0]
  rw [if_neg (by simp at h; omega)]
  exact hc rfl k (by simp at hk; omega)
 | cons p r ih =>
  intro pre k h hk hc
  obtain ⟨k, rfl⟩ : ∃ m, k = m + 1 := ⟨k - 1, by omega⟩
  simp only [List.length_cons] at h hk
  rw [Nat.succ_mul] at hk
  simp only [qI.l0]
  rw [if_pos (by omega), if_pos (by omega), if_pos (by simp; omega), rdPeg]
  simp only [pgIs_eq, Option.bind_some]
  by_cases c : pegP p.f0 p.f1
  ·rw [if_pos (by simpa using c), if_pos (by simp; omega)]
   rw [Int.toNat_natCast, List.take_left]
   have hcont : pre.any (samePeg p) = false → ∀ k, K0 + r.length * (L + 2) + 1 ≤ k → qI.l0 k (pre ++ p :: r) false (pre ++ p :: r) (L : Int) (wrap64 ((pre.length : Int) + 1)) = some (if (r.all pegB && jT (pre ++ [p]) r) = true then R else (false, false)) := by
    intro hany k hk
    have := ih (pre ++ [p]) k (by simp; omega) hk (fun hq k hk => by
     have := hc (by rw [List.all_cons, jT, hany, show pegB p = true from decide_eq_true c]; simpa using hq) k hk
     simpa using this)
    rw [w64 (by omega) (by omega)]
    simpa using this
   have := hasS_in (pre ++ p :: r) false (L : Int) p pre (by omega) (K0 + r.length * (L + 2) + 1) (if (r.all pegB && jT (pre ++ [p]) r) = true then R else (false, false)) (pre.length : Int) pre.length k 0 (by omega) (by omega) (by rw [List.drop_zero]; exact hcont)
   rw [show ((0 : Nat) : Int) = 0 from rfl] at this
   rw [this]
   simp only [List.drop_zero, List.all_cons, jT, pegB, c, decide_true, Bool.true_and, Option.some.injEq]
   generalize pre.any (samePeg p) = b1
   cases b1 <;> simp
  ·rw [if_neg (by simpa using c)]
   simp [pegB, c]
/-- The longest way to go on from some with the pegs that are left, no three in a line: the first such. -/
def noP : List S36 → List S36 → List S36 → List S36
 | [], _, best => best
 | p :: r, s, best => if xA s p s.length 0 = true then noP r s best else noP r s (if (noP r (s ++ [p]) (s ++ [p])).length > best.length then noP r (s ++ [p]) (s ++ [p]) else best)
theorem noP_length (L : List S36) (M : Nat) : ∀ (s best : List S36), best.length ≤ M → s.length + L.length ≤ M → (noP L s best).length ≤ M := by
 induction L with
 | nil => intro s best h _; exact h
 | cons p r ih =>
  intro s best h hs
  simp only [List.length_cons] at hs
  unfold noP
  by_cases c : xA s p s.length 0 = true
  ·rw [if_pos c]
   exact ih s best h (by omega)
  ·rw [if_neg c]
   have h1 := ih (s ++ [p]) (s ++ [p]) (by simp; omega) (by simp; omega)
   by_cases e : (noP r (s ++ [p]) (s ++ [p])).length > best.length
   ·rw [if_pos e]
    exact ih s _ h1 (by omega)
   ·rw [if_neg e]
    exact ih s _ h (by omega)
theorem ctLook_loop (d : Nat) : ∀ (k i : Nat) (L s best : List S36), i + d = L.length → L.length ≤ 50 → d * 2 + 60000 ≤ k → allP L → allP s → s.length + d ≤ 50 → best.length ≤ 50 →
  qM.l0 k L s best (i : Int) = some (noP (L.drop i) s best) := by
 induction d with
 | zero =>
  intro k i L s best hi hl hk hL hs hn hb
  obtain ⟨k, rfl⟩ : ∃ m, k = m + 1 := ⟨k - 1, by omega⟩
  simp only [qM.l0]
  rw [if_neg (by omega), List.drop_of_length_le (by omega)]
  rfl
 | succ d ih =>
  intro k i L s best hi hl hk hL hs hn hb
  obtain ⟨k, rfl⟩ : ∃ m, k = m + 1 := ⟨k - 1, by omega⟩
  have hlt : i < L.length := by omega
  have hp : pegP L[i].f0 L[i].f1 := hL _ (List.getElem_mem hlt)
  have hs' : allP (s ++ [L[i]]) := fun q hq => by
   rw [List.mem_append, List.mem_singleton] at hq
   rcases hq with hq | hq
   ·exact hs q hq
   ·rw [hq]; exact hp
  have hlen : (noP (L.drop (i + 1)) (s ++ [L[i]]) (s ++ [L[i]])).length ≤ 50 := noP_length _ 50 _ _ (by simp; omega) (by simp; omega)
  have hf : qM.f k L (s ++ [L[i]]) ((i + 1 : Nat) : Int) = some (noP (L.drop (i + 1)) (s ++ [L[i]]) (s ++ [L[i]])) := by
   obtain ⟨k, rfl⟩ : ∃ m, k = m + 1 := ⟨k - 1, by omega⟩
   simp only [qM.f]
   simp only [Option.bind_some, List.nil_append, List.length_nil]
   rw [if_pos (by simp; omega)]
   exact ih k (i + 1) L _ _ (by omega) hl (by omega) hL hs' (by simp; omega) (by simp; omega)
  simp only [qM.l0]
  rw [if_pos (by omega), if_pos (by omega), xb L i hlt, ctFits_eq k s hs (by omega) L[i] hp (by omega), Option.bind_some, w64 (by omega) (by omega), show (i : Int) + 1 = ((i + 1 : Nat) : Int) by omega, List.drop_eq_getElem_cons hlt, noP]
  by_cases c : xA s L[i] s.length 0 = true
  ·rw [c, if_neg (by decide), if_pos rfl]
   exact ih k (i + 1) L s best (by omega) hl (by omega) hL hs (by omega) hb
  ·rw [Bool.eq_false_iff.mpr c, if_pos (by decide), if_neg (by decide)]
   simp only [Option.bind_some, List.nil_append, List.length_nil]
   rw [if_pos (by omega), if_pos (by simp; omega), hf, Option.bind_some]
   by_cases e : (noP (L.drop (i + 1)) (s ++ [L[i]]) (s ++ [L[i]])).length > best.length
   ·rw [if_pos (by omega), if_pos e]
    exact ih k (i + 1) L s _ (by omega) hl (by omega) hL hs (by omega) hlen
   ·rw [if_neg (by omega), if_neg e]
    exact ih k (i + 1) L s _ (by omega) hl (by omega) hL hs (by omega) hb
theorem ctLook_eq (k : Nat) (L : List S36) (hL : allP L) (hlen : L.length ≤ 50) (hk : 70000 ≤ k) : qM.f k L [] 0 = some (noP L [] []) := by
 obtain ⟨k, rfl⟩ : ∃ m, k = m + 1 := ⟨k - 1, by omega⟩
 simp only [qM.f]
 simp only [Option.bind_some, List.nil_append, List.length_nil]
 rw [if_pos (by omega)]
 have := ctLook_loop L.length k 0 L [] [] (by omega) hlen (by omega) hL (fun q hq => absurd hq (by simp)) (by simp; omega) (by simp)
 simpa using this
theorem noThree_l2 (s l best : List S36) (x6 x16 x17 x24 n : Int) (p a : S36) (hp : pegP p.f0 p.f1) (ha : pegP a.f0 a.f1) (T : List S36) (hT : allP T) (hlen : T.length ≤ 1000) (K0 : Nat) (R : Bool → List S36)
  (hc : ∀ (fl : Bool) (k : Nat), K0 ≤ k → qD.l1 k s l best x6 fl l x16 x17 s n (wrap64 (x24 + 1)) p.f0 p.f1 = some (R fl)) (d : Nat) : ∀ (k j : Nat) (fl : Bool), j + d = T.length → K0 + d + 1 ≤ k →
  qD.l2 k s l best x6 fl l x16 x17 s n x24 T (T.length : Int) (j : Int) p.f0 p.f1 a.f0 a.f1 = some (R (fl && !((T.drop j).any (fun b => turnP a b p == 0)))) := by
 induction d with
 | zero =>
  intro k j fl hj hk
  obtain ⟨k, rfl⟩ : ∃ m, k = m + 1 := ⟨k - 1, by omega⟩
  simp only [qD.l2]
  rw [if_neg (by omega), hc fl k (by omega), List.drop_of_length_le (by omega), List.any_nil, Bool.not_false, Bool.and_true]
 | succ d ih =>
  intro k j fl hj hk
  obtain ⟨k, rfl⟩ : ∃ m, k = m + 1 := ⟨k - 1, by omega⟩
  have hlt : j < T.length := by omega
  simp only [qD.l2]
  rw [if_pos (by omega), if_pos (by omega), if_pos (by omega), xb T j hlt, turnP_eq ha (hT _ (List.getElem_mem hlt)) hp, Option.bind_some, List.drop_eq_getElem_cons hlt, List.any_cons, w64 (by omega) (by omega)]
  cases fl with
  | false =>
   rw [if_neg (by decide), Bool.false_and]
   have := ih k (j + 1) false (by omega) (by omega)
   rw [Bool.false_and] at this
   exact this
  | true =>
   rw [if_pos rfl, Bool.true_and, Bool.not_or]
   exact ih k (j + 1) (turnP a T[j] p != 0) (by omega) (by omega)
theorem noThree_l1 (s l best : List S36) (hs : allP s) (hsl : s.length ≤ 50) (x6 x16 x17 : Int) (p : S36) (hp : pegP p.f0 p.f1) (K0 : Nat) (R : Bool → List S36)
  (hc : ∀ (fl : Bool) (k : Nat), K0 ≤ k → qD.l1 k s l best x6 fl l x16 x17 s (s.length : Int) (s.length : Int) p.f0 p.f1 = some (R fl)) (d : Nat) : ∀ (k i : Nat) (fl : Bool), i + d = s.length → K0 + d * 60 ≤ k →
  qD.l1 k s l best x6 fl l x16 x17 s (s.length : Int) (i : Int) p.f0 p.f1 = some (R (fl && !(xA s p d i))) := by
 induction d with
 | zero =>
  intro k i fl hi hk
  rw [show i = s.length by omega, hc fl k (by omega), xA, Bool.not_false, Bool.and_true]
 | succ d ih =>
  intro k i fl hi hk
  obtain ⟨k, rfl⟩ : ∃ m, k = m + 1 := ⟨k - 1, by omega⟩
  have hlt : i < s.length := by omega
  have hg : s.getD i z36 = s[i] := by rw [List.getD_eq_getElem?_getD, List.getElem?_eq_getElem hlt, Option.getD_some]
  have ht : (s.take i).length = i := by rw [List.length_take]; omega
  simp only [qD.l1]
  rw [if_pos (by omega), if_pos (by omega), if_pos (by omega), if_pos (by omega), Option.bind_some, xb s i hlt, show ((i : Int)).toNat = i from rfl]
  have := noThree_l2 s l best x6 x16 x17 (i : Int) (s.length : Int) p s[i] hp (hs _ (List.getElem_mem hlt)) (s.take i) (fun q hq => hs q (List.mem_of_mem_take hq)) (by omega) (K0 + d * 60) (fun f => R (f && !(xA s p d (i + 1)))) (fun f k hk => by
   rw [w64 (by omega) (by omega)]
   exact ih k (i + 1) f (by omega) hk) i k 0 fl (by omega) (by omega)
  rw [show ((0 : Nat) : Int) = 0 from rfl, List.drop_zero] at this
  rw [this, xA, hg, Bool.not_or, Bool.and_assoc]
theorem noThree_loop (c : Nat) (hc : 4000 ≤ c) (d : Nat) : ∀ (k i : Nat) (l s best : List S36), i + d = l.length → l.length ≤ 50 → d * c + 5000 ≤ k → allP l → allP s → s.length + d ≤ 50 → best.length ≤ 50 →
  qD.l0 k s l best l (l.length : Int) (i : Int) = some (noP (l.drop i) s best) := by
 induction d with
 | zero =>
  intro k i l s best hi hl hk hL hs hn hb
  obtain ⟨k, rfl⟩ : ∃ m, k = m + 1 := ⟨k - 1, by omega⟩
  simp only [qD.l0]
  rw [if_neg (by omega), List.drop_of_length_le (by omega)]
  rfl
 | succ d ih =>
  intro k i l s best hi hl hk hL hs hn hb
  rw [Nat.succ_mul] at hk
  obtain ⟨k, rfl⟩ : ∃ m, k = m + 1 := ⟨k - 1, by omega⟩
  have hlt : i < l.length := by omega
  have hp : pegP l[i].f0 l[i].f1 := hL _ (List.getElem_mem hlt)
  have hs' : allP (s ++ [l[i]]) := fun q hq => by
   rw [List.mem_append, List.mem_singleton] at hq
   rcases hq with hq | hq
   ·exact hs q hq
   ·rw [hq]; exact hp
  have hlen : (noP (l.drop (i + 1)) (s ++ [l[i]]) (s ++ [l[i]])).length ≤ 50 := noP_length _ 50 _ _ (by simp; omega) (by simp; omega)
  have hdl : (l.drop (i + 1)).length = d := by simp; omega
  have hf : ∀ k, d * c + 5001 ≤ k → qD.f k (s ++ [l[i]]) (l.drop (i + 1)) = some (noP (l.drop (i + 1)) (s ++ [l[i]]) (s ++ [l[i]])) := by
   intro k hk
   obtain ⟨k, rfl⟩ : ∃ m, k = m + 1 := ⟨k - 1, by omega⟩
   simp only [qD.f]
   have := ih k 0 (l.drop (i + 1)) (s ++ [l[i]]) (s ++ [l[i]]) (by omega) (by omega) (by omega) (fun q hq => hL q (List.mem_of_mem_drop hq)) hs' (by simp; omega) (by simp; omega)
   simpa using this
  simp only [qD.l0]
  rw [if_pos (by omega), if_pos (by omega), if_pos (by omega), xb l i hlt, List.drop_eq_getElem_cons hlt, noP]
  have := noThree_l1 s l best hs (by omega) (i : Int) (l.length : Int) (i : Int) l[i] hp (d * c + 5002) (fun fl => if fl = true then noP (l.drop (i + 1)) s (if (noP (l.drop (i + 1)) (s ++ [l[i]]) (s ++ [l[i]])).length > best.length then noP (l.drop (i + 1)) (s ++ [l[i]]) (s ++ [l[i]]) else best) else noP (l.drop (i + 1)) s best) (fun fl k hk => by
   obtain ⟨k, rfl⟩ : ∃ m, k = m + 1 := ⟨k - 1, by omega⟩
   simp only [qD.l1]
   rw [if_neg (by omega), w64 (x := (i : Int) + 1) (by omega) (by omega), show (i : Int) + 1 = ((i + 1 : Nat) : Int) by omega, Int.toNat_natCast]
   cases fl with
   | false =>
    rw [if_neg (by decide), if_neg (by decide)]
    exact ih k (i + 1) l s best (by omega) hl (by omega) hL hs (by omega) hb
   | true =>
    rw [if_pos rfl, if_pos rfl, if_pos (by omega), if_pos (by omega), if_pos (by omega), hf k (by omega), Option.bind_some]
    by_cases e : (noP (l.drop (i + 1)) (s ++ [l[i]]) (s ++ [l[i]])).length > best.length
    ·rw [if_pos (by omega), if_pos e]
     exact ih k (i + 1) l s _ (by omega) hl (by omega) hL hs (by omega) hlen
    ·rw [if_neg (by omega), if_neg e]
     exact ih k (i + 1) l s _ (by omega) hl (by omega) hL hs (by omega) hb) s.length k 0 true (by omega) (by omega)
  rw [show ((0 : Nat) : Int) = 0 from rfl] at this
  rw [this, Bool.true_and]
  by_cases cf : xA s l[i] s.length 0 = true
  ·rw [cf]
   rfl
  ·rw [Bool.eq_false_iff.mpr cf]
   rfl
theorem noThree_eq (k : Nat) (L : List S36) (hL : allP L) (hlen : L.length ≤ 50) (hk : 300000 ≤ k) : qD.f k [] L = some (noP L [] []) := by
 obtain ⟨k, rfl⟩ : ∃ m, k = m + 1 := ⟨k - 1, by omega⟩
 simp only [qD.f]
 have := noThree_loop 4000 (Nat.le_refl _) L.length k 0 L [] [] (by omega) hlen (by omega) hL (fun q hq => absurd hq (by simp)) (by simp; omega) (by simp)
 simpa using this
theorem firstNo_eq (w h : Int) : ∃ R, R.1.length ≤ 50 ∧ (∀ k, 300000 ≤ k → zQ.f k w h = some R) ∧ (∀ k, 300000 ≤ k → jb.f k w h = some ((R.1.length : Int), R.2)) ∧ (∀ k, 300000 ≤ k → zI.f k w h = some R) := by
 by_cases c : (1 ≤ w ∧ w ≤ 4) ∧ (1 ≤ h ∧ h ≤ 4)
 ·obtain ⟨W, rfl⟩ : ∃ n : Nat, w = n := ⟨w.toNat, by omega⟩
  obtain ⟨H, rfl⟩ : ∃ n : Nat, h = n := ⟨h.toNat, by omega⟩
  have hm : W * H ≤ 4 * 4 := Nat.mul_le_mul (by omega) (by omega)
  have hlen := jF H 0 W
  have hall : allP (zl H 0 W) := fun p hp => by
   have := rows_bound H 0 W 4 (by omega) (by omega) p hp
   unfold pegP
   omega
  have hr : (noP (zl H 0 W) [] []).length ≤ 50 := noP_length _ 50 _ _ (by simp) (by simp; omega)
  refine ⟨(noP (zl H 0 W) [] [], true), hr, fun k hk => ?_, fun k hk => ?_, fun k hk => ?_⟩
  ·unfold zQ.f
   rw [jX, Option.bind_some, if_pos (by simpa using c), ctPegs_eq k W H (by omega) (by omega) (by omega), Option.bind_some, ctLook_eq k _ hall (by omega) (by omega), Option.bind_some]
  ·unfold jb.f
   rw [jX, Option.bind_some, if_pos (by simpa using c), ctPegs_eq k W H (by omega) (by omega) (by omega), Option.bind_some, ctLook_eq k _ hall (by omega) (by omega), Option.bind_some]
  ·unfold zI.f zz.f
   rw [xn, Option.bind_some, if_pos (by simpa using c), board_eq k W H (by omega) (by omega) (by omega), Option.bind_some, noThree_eq k _ hall (by omega) (by omega), Option.bind_some]
   simp only [Option.bind_some, List.nil_append, List.length_nil]
   rw [if_pos (by omega), Option.bind_some]
 ·refine ⟨([], false), by simp, fun k hk => ?_, fun k hk => ?_, fun k hk => ?_⟩
  ·unfold zQ.f
   rw [jX, Option.bind_some, if_neg (by simpa using c)]
  ·unfold jb.f
   rw [jX, Option.bind_some, if_neg (by simpa using c)]
   rfl
  ·unfold zI.f
   rw [xn, Option.bind_some, if_neg (by simpa using c)]
theorem idx_cons (p : K3 × Int) (r : List (K3 × Int)) (x : K3) : idxC (p :: r) x = if p.1 = x then 0 else idxC r x + 1 := by
 unfold idxC
 rw [List.findIdx_cons]
 by_cases h : p.1 = x
 ·simp [h]
 ·have h2 : (p.1 == x) = false := beq_eq_false_iff_ne.mpr h
  rw [h2, if_neg h]
  rfl
theorem cnt_nil (x : K3) : cntC [] x = 0 := by simp [cntC]
theorem cnt_cons (p : K3 × Int) (r : List (K3 × Int)) (x : K3) : cntC (p :: r) x = if p.1 = x then p.2 else cntC r x := by
 unfold cntC
 rw [idx_cons]
 by_cases h : p.1 = x
 ·simp [h]
 ·simp [h]
theorem put_nil (x : K3) : putC [] x = [(x, wrap64 (0 + 1))] := by simp [putC, enC, idxC, cntC]
theorem put_cons (p : K3 × Int) (r : List (K3 × Int)) (x : K3) : putC (p :: r) x = if p.1 = x then (x, wrap64 (p.2 + 1)) :: r else p :: putC r x := by
 unfold putC enC
 rw [idx_cons, cnt_cons]
 by_cases h : p.1 = x
 ·simp [h]
 ·simp only [if_neg h, List.length_cons, Nat.add_lt_add_iff_right]
  by_cases h2 : idxC r x < r.length
  ·simp [h2]
  ·simp [h2]
theorem cnt_put (cs : List (K3 × Int)) (x y : K3) : cntC (putC cs x) y = if x = y then wrap64 (cntC cs x + 1) else cntC cs y := by
 induction cs with
 | nil =>
  rw [put_nil, cnt_cons, cnt_nil, cnt_nil]
 | cons p r ih =>
  rw [put_cons, cnt_cons p r x, cnt_cons p r y]
  by_cases h : p.1 = x
  ·rw [if_pos h, cnt_cons, if_pos h]
   by_cases h2 : x = y
   ·simp [h2]
   ·have : ¬ p.1 = y := fun e => h2 (h.symm.trans e)
    simp [h2, this]
  ·rw [if_neg h, cnt_cons, ih, if_neg h]
   by_cases h2 : x = y
   ·have : ¬ p.1 = y := fun e => h (e.trans h2.symm)
    simp [h2, this]
   ·simp [h2]
theorem put_len (cs : List (K3 × Int)) (x : K3) : (putC cs x).length ≤ cs.length + 1 := by
 induction cs with
 | nil => rw [put_nil]; simp
 | cons p r ih =>
  rw [put_cons]
  by_cases h : p.1 = x
  ·rw [if_pos h]; simp
  ·rw [if_neg h]; simpa using ih
theorem put_all (M : Int) (hM : M ≤ 1000000) (cs : List (K3 × Int)) (x : K3) (h : ∀ p ∈ cs, 0 ≤ p.2 ∧ p.2 ≤ M) (hM0 : 0 ≤ M) : ∀ p ∈ putC cs x, 0 ≤ p.2 ∧ p.2 ≤ M + 1 := by
 induction cs with
 | nil =>
  intro p hp
  rw [put_nil, List.mem_singleton] at hp
  subst hp
  simp only []
  rw [w64 (by omega) (by omega)]
  omega
 | cons q r ih =>
  intro p hp
  rw [put_cons] at hp
  have hq := h q (by simp)
  by_cases e : q.1 = x
  ·rw [if_pos e] at hp
   rcases List.mem_cons.1 hp with rfl | hp
   ·simp only []
    rw [w64 (by omega) (by omega)]
    omega
   ·have := h p (List.mem_cons_of_mem _ hp)
    omega
  ·rw [if_neg e] at hp
   rcases List.mem_cons.1 hp with rfl | hp
   ·omega
   ·exact ih (fun p hp => h p (List.mem_cons_of_mem _ hp)) p hp
/-- Two of c chosen. -/
def twoOf (c : Int) : Int := Int.tdiv (c * (c - 1)) 2
theorem twoOf_succ (c : Int) (hc : 0 ≤ c) : twoOf (c + 1) = twoOf c + c := by
 unfold twoOf
 have h1 : 0 ≤ c * (c - 1) := by
  rcases Int.lt_or_le c 1 with h | h
  ·have : c = 0 := by omega
   subst this
   decide
  ·exact Int.mul_nonneg hc (by omega)
 have h2 : (c + 1) * (c + 1 - 1) = c * (c - 1) + 2 * c := by grind
 rw [h2, Int.tdiv_eq_ediv_of_nonneg h1, Int.tdiv_eq_ediv_of_nonneg (by omega)]
 omega
def sumT (cs : List (K3 × Int)) : Int := (cs.map fun p => twoOf p.2).sum
theorem sumT_put (cs : List (K3 × Int)) (x : K3) (h : ∀ p ∈ cs, 0 ≤ p.2 ∧ p.2 ≤ 1000000) : sumT (putC cs x) = sumT cs + cntC cs x := by
 induction cs with
 | nil =>
  rw [put_nil, cnt_nil]
  unfold sumT
  have : wrap64 (0 + 1) = 1 := by unfold wrap64; omega
  rw [this]
  simp [twoOf]
 | cons q r ih =>
  rw [put_cons, cnt_cons]
  have hq := h q (by simp)
  by_cases e : q.1 = x
  ·rw [if_pos e, if_pos e]
   unfold sumT
   simp only [List.map_cons, List.sum_cons]
   rw [w64 (by omega) (by omega), twoOf_succ _ hq.1]
   omega
  ·rw [if_neg e, if_neg e]
   have := ih (fun p hp => h p (List.mem_cons_of_mem _ hp))
   unfold sumT at this ⊢
   simp only [List.map_cons, List.sum_cons]
   omega
theorem mul_lim {a b A B : Int} (ha : 0 ≤ a) (hb : 0 ≤ b) (h1 : a ≤ A) (h2 : b ≤ B) : 0 ≤ a * b ∧ a * b ≤ A * B := ⟨Int.mul_nonneg ha hb, Int.mul_le_mul h1 h2 hb (by omega)⟩
theorem twoOf_lim (c : Int) (h0 : 0 ≤ c) (h1 : c ≤ 10000) : 0 ≤ twoOf c ∧ twoOf c ≤ 100000000 ∧ 0 ≤ c * (c - 1) ∧ c * (c - 1) ≤ 100000000 := by
 have h : 0 ≤ c * (c - 1) ∧ c * (c - 1) ≤ 100000000 := by
  rcases Int.lt_or_le c 1 with h | h
  ·have : c = 0 := by omega
   subst this
   decide
  ·exact mul_lim h0 (by omega) h1 (by omega : c - 1 ≤ 10000)
 unfold twoOf
 rw [Int.tdiv_eq_ediv_of_nonneg h.1]
 omega
theorem choose2_eq (k : Nat) (c : Int) (h0 : 0 ≤ c) (h1 : c ≤ 10000) (hk : 3 ≤ k) : qU.f k c 2 = some (twoOf c) := by
 obtain ⟨k, rfl⟩ : ∃ m, k = m + 3 := ⟨k - 3, by omega⟩
 have hl := twoOf_lim c h0 h1
 unfold qU.f
 rw [qU.l0, if_pos (by decide), show wrap64 (0 + 1) = 1 by unfold wrap64; omega, if_neg (by decide)]
 rw [qU.l0, if_pos (by decide), show wrap64 (1 + 1) = 2 by unfold wrap64; omega, if_neg (by decide)]
 rw [qU.l0, if_neg (by decide)]
 have e1 : wrap64 (Int.tdiv (wrap64 (1 * (wrap64 (c - 0)))) 1) = c := by
  rw [Int.sub_zero, w64 (x := c) (by omega) (by omega), Int.one_mul, w64 (x := c) (by omega) (by omega), Int.tdiv_one, w64 (by omega) (by omega)]
 rw [e1, w64 (x := c - 1) (by omega) (by omega), w64 (x := c * (c - 1)) (by omega) (by omega)]
 have h2 := hl.1
 have h3 := hl.2.1
 unfold twoOf at h2 h3 ⊢
 rw [w64 (by omega) (by omega)]
theorem sumV_two (k : Nat) (hk : 3 ≤ k) (cs : List (K3 × Int)) (h : ∀ p ∈ cs, 0 ≤ p.2 ∧ p.2 ≤ 10000) (hl : cs.length ≤ 10000) : qr.sumV k cs = some (sumT cs) ∧ 0 ≤ sumT cs ∧ sumT cs ≤ cs.length * 100000000 := by
 induction cs with
 | nil => exact ⟨rfl, by decide, by decide⟩
 | cons p r ih =>
  have hp := h p (by simp)
  simp only [List.length_cons] at hl
  obtain ⟨i1, i2, i3⟩ := ih (fun q hq => h q (List.mem_cons_of_mem _ hq)) (by omega)
  have ht := twoOf_lim p.2 hp.1 hp.2
  have e : sumT (p :: r) = twoOf p.2 + sumT r := by simp [sumT]
  rw [qr.sumV, choose2_eq k p.2 hp.1 hp.2 hk, i1, Option.bind_some, Option.bind_some, e, w64 (by omega) (by omega)]
  refine ⟨rfl, by omega, ?_⟩
  simp only [List.length_cons]
  omega
/-- A pair's middle and its distance. -/
def keyP (p q : S36) : K3 := (wrap64 (p.f0 + q.f0), wrap64 (p.f1 + q.f1), wrap64 ((wrap64 ((wrap64 (p.f0 - q.f0)) * (wrap64 (p.f0 - q.f0)))) + (wrap64 ((wrap64 (p.f1 - q.f1)) * (wrap64 (p.f1 - q.f1))))))
def keysF (L : List S36) : Nat → Nat → List K3
 | 0, _ => []
 | d + 1, i => (L.take i).map (keyP (L.getD i z36)) ++ keysF L d (i + 1)
def eqS (n : Nat) (ks : List K3) : List K3 → Nat × List K3
 | [] => (n, ks)
 | x :: r => eqS (n + ks.count x) (ks ++ [x]) r
theorem eqS_append (a b : List K3) : ∀ (n : Nat) (ks : List K3), eqS n ks (a ++ b) = eqS (eqS n ks a).1 (eqS n ks a).2 b := by
 induction a with
 | nil => intro n ks; rfl
 | cons x r ih => intro n ks; exact ih _ _
theorem keysF_length (L : List S36) (hL : L.length ≤ 40) (d : Nat) : ∀ i, i + d = L.length → (keysF L d i).length ≤ d * 40 := by
 induction d with
 | zero => intro i _; simp [keysF]
 | succ d ih =>
  intro i hi
  have := ih (i + 1) (by omega)
  rw [keysF, List.length_append, List.length_map, List.length_take]
  omega
/-- The map and the lists agree. -/
theorem eqS_put (r : List K3) : ∀ (n : Nat) (ks : List K3) (cs : List (K3 × Int)) (M : Nat), M + r.length ≤ 10000 → (∀ x, cntC cs x = ((ks.count x : Nat) : Int)) → sumT cs = (n : Int) → (∀ p ∈ cs, 0 ≤ p.2 ∧ p.2 ≤ (M : Int)) → cs.length ≤ M → ks.length = M →
  sumT (r.foldl putC cs) = (((eqS n ks r).1 : Nat) : Int) ∧ (∀ p ∈ r.foldl putC cs, 0 ≤ p.2 ∧ p.2 ≤ 10000) ∧ (r.foldl putC cs).length ≤ 10000 := by
 induction r with
 | nil =>
  intro n ks cs M hM _ hs ha hl _
  simp only [List.length_nil] at hM
  refine ⟨hs, fun p hp => ?_, ?_⟩
  ·have := ha p hp
   omega
  ·show cs.length ≤ 10000
   omega
 | cons x r ih =>
  intro n ks cs M hM hc hs ha hl hk
  simp only [List.length_cons] at hM
  have hcl : ks.count x ≤ M := hk ▸ List.count_le_length
  refine ih (n + ks.count x) (ks ++ [x]) (putC cs x) (M + 1) (by omega) (fun y => ?_) ?_ ?_ ?_ (by simp; omega)
  ·rw [cnt_put, List.count_append, List.count_singleton, hc, hc]
   by_cases e : x = y
   ·subst e
    rw [if_pos rfl, w64 (by omega) (by omega)]
    simp
   ·rw [if_neg e]
    simp [e]
  ·rw [sumT_put cs x (fun p hp => by have := ha p hp; omega), hs, hc]
   omega
  ·have := put_all (M : Int) (by omega) cs x ha (by omega)
   intro p hp
   have := this p hp
   omega
  ·have := put_len cs x
   omega
theorem rectI_l1 (L : List S36) (x24 x25 : Int) (p : S36) (T : List S36) (hT : T.length ≤ 100) (K0 : Nat) (R : Int × Bool) (d : Nat) : ∀ (k j : Nat) (cs : List (K3 × Int)), j + d = T.length → K0 + d + 1 ≤ k →
  (∀ k, K0 ≤ k → qr.l0 k L L x24 (wrap64 (x25 + 1)) (((T.drop j).map (keyP p)).foldl putC cs) = some R) →
  qr.l1 k L L x24 x25 T (T.length : Int) (j : Int) cs p.f0 p.f1 = some R := by
 induction d with
 | zero =>
  intro k j cs hj hk hc
  obtain ⟨k, rfl⟩ : ∃ m, k = m + 1 := ⟨k - 1, by omega⟩
  simp only [qr.l1]
  rw [if_neg (by omega)]
  rw [List.drop_of_length_le (by omega)] at hc
  exact hc k (by omega)
 | succ d ih =>
  intro k j cs hj hk hc
  obtain ⟨k, rfl⟩ : ∃ m, k = m + 1 := ⟨k - 1, by omega⟩
  have hlt : j < T.length := by omega
  simp only [qr.l1]
  rw [if_pos (by omega), if_pos (by omega), if_pos (by omega), xb T j hlt]
  unfold jJ.f zA.f zU.f
  simp only [Option.bind_some]
  rw [w64 (x := (j : Int) + 1) (by omega) (by omega)]
  refine ih k (j + 1) _ (by omega) (by omega) (fun k hk => ?_)
  have := hc k hk
  rw [List.drop_eq_getElem_cons hlt, List.map_cons, List.foldl_cons] at this
  exact this
theorem rectI_l0 (L : List S36) (hL : L.length ≤ 40) (K0 : Nat) (d : Nat) : ∀ (k i : Nat) (cs : List (K3 × Int)) (R : Int × Bool), i + d = L.length → K0 + d * 60 + 1 ≤ k →
  (∀ k, K0 ≤ k → ((qr.sumV k ((keysF L d i).foldl putC cs)).bind fun s => some (s, true)) = some R) →
  qr.l0 k L L (L.length : Int) (i : Int) cs = some R := by
 induction d with
 | zero =>
  intro k i cs R hi hk hc
  obtain ⟨k, rfl⟩ : ∃ m, k = m + 1 := ⟨k - 1, by omega⟩
  simp only [qr.l0]
  rw [if_neg (by omega)]
  exact hc k (by omega)
 | succ d ih =>
  intro k i cs R hi hk hc
  obtain ⟨k, rfl⟩ : ∃ m, k = m + 1 := ⟨k - 1, by omega⟩
  have hlt : i < L.length := by omega
  have hg : L.getD i z36 = L[i] := by rw [List.getD_eq_getElem?_getD, List.getElem?_eq_getElem hlt, Option.getD_some]
  have ht : (L.take i).length = i := by rw [List.length_take]; omega
  simp only [qr.l0]
  rw [if_pos (by omega), if_pos (by omega), if_pos (by omega), if_pos (by omega), Option.bind_some, xb L i hlt, Int.toNat_natCast]
  refine rectI_l1 L (L.length : Int) (i : Int) L[i] (L.take i) (by omega) (K0 + d * 60 + 1) R (L.take i).length k 0 cs (by omega) (by omega) (fun k hk => ?_)
  rw [w64 (by omega) (by omega)]
  refine ih k (i + 1) _ R (by omega) hk (fun k hk => ?_)
  have := hc k hk
  rw [keysF, List.foldl_append, hg] at this
  exact this
def midK (x : K3) : S36 := ⟨x.1, x.2.1⟩
theorem rdI_nat (l : List Int) (i : Nat) (h : i < l.length) : rd l (i : Int) = l[i] := by
 unfold rd
 simp [List.getD_eq_getElem?_getD, List.getElem?_eq_getElem h]
theorem rectS_l2 (L : List S36) (x26 x27 x35 x36 : Int) (T : List S36) (p0 p1 : Int) (ks : List K3) (hks : ks.length ≤ 10000) (x : K3) (K0 : Nat) (R : Int × Bool) (d : Nat) : ∀ (k j n : Nat), j + d = ks.length → n + d ≤ 200000000 → K0 + d + 1 ≤ k →
  (∀ k, K0 ≤ k → qy.l1 k L ((ks ++ [x]).map midK) ((ks ++ [x]).map (·.2.2)) ((n + (ks.drop j).count x : Nat) : Int) L x26 x27 T x35 (wrap64 (x36 + 1)) p0 p1 = some R) →
  qy.l2 k L (ks.map midK) (ks.map (·.2.2)) (n : Int) x.2.2 L x26 x27 T x35 x36 (ks.map midK) (ks.length : Int) (j : Int) p0 p1 x.1 x.2.1 = some R := by
 induction d with
 | zero =>
  intro k j n hj hn hk hc
  obtain ⟨k, rfl⟩ : ∃ m, k = m + 1 := ⟨k - 1, by omega⟩
  simp only [qy.l2]
  rw [if_neg (by omega), if_pos (by simp; omega), if_pos (by simp; omega)]
  rw [List.drop_of_length_le (by omega)] at hc
  have := hc k (by omega)
  simpa [midK] using this
 | succ d ih =>
  intro k j n hj hn hk hc
  obtain ⟨k, rfl⟩ : ∃ m, k = m + 1 := ⟨k - 1, by omega⟩
  have hlt : j < ks.length := by omega
  have hm : (ks.map midK)[j]'(by simpa using hlt) = midK ks[j] := by simp
  simp only [qy.l2]
  rw [if_pos (by omega), if_pos (by omega), if_pos (by simp; omega), xb (ks.map midK) j (by simpa using hlt), hm, w64 (x := (j : Int) + 1) (by omega) (by omega)]
  rw [List.drop_eq_getElem_cons hlt, List.count_cons] at hc
  by_cases c1 : (((midK ks[j]).f0) == x.1 && (((midK ks[j]).f1) == x.2.1)) = true
  ·rw [if_pos c1, if_pos (by simp; omega), rdI_nat _ j (by simpa using hlt), List.getElem_map]
   simp only [midK, Bool.and_eq_true, beq_iff_eq] at c1
   by_cases c2 : (ks[j]).2.2 = x.2.2
   ·have e : ks[j] = x := Prod.ext c1.1 (Prod.ext c1.2 c2)
    rw [if_pos c2, w64 (x := (n : Int) + 1) (by omega) (by omega)]
    refine ih k (j + 1) (n + 1) (by omega) (by omega) (by omega) (fun k hk => ?_)
    have := hc k hk
    rw [e, if_pos (by simp)] at this
    rw [show n + 1 + (ks.drop (j + 1)).count x = n + ((ks.drop (j + 1)).count x + 1) by omega]
    exact this
   ·have e : ¬ ks[j] = x := fun e => c2 (by rw [e])
    rw [if_neg c2]
    refine ih k (j + 1) n (by omega) (by omega) (by omega) (fun k hk => ?_)
    have := hc k hk
    rw [if_neg (by simpa using e)] at this
    exact this
  ·have e : ¬ ks[j] = x := fun e => c1 (by rw [e]; simp [midK])
   rw [if_neg c1]
   refine ih k (j + 1) n (by omega) (by omega) (by omega) (fun k hk => ?_)
   have := hc k hk
   rw [if_neg (by simpa using e)] at this
   exact this
theorem rectS_l1 (L : List S36) (x26 x27 : Int) (p : S36) (T : List S36) (hT : T.length ≤ 100) (K0 : Nat) (R : Int × Bool) (d : Nat) : ∀ (k j n : Nat) (ks : List K3), j + d = T.length → ks.length + d ≤ 5000 → n + (ks.length + d) * d ≤ 100000000 → K0 + d * 5002 + 1 ≤ k →
  (∀ k, K0 ≤ k → qy.l0 k L ((eqS n ks ((T.drop j).map (keyP p))).2.map midK) ((eqS n ks ((T.drop j).map (keyP p))).2.map (·.2.2)) (((eqS n ks ((T.drop j).map (keyP p))).1 : Nat) : Int) L x26 (wrap64 (x27 + 1)) = some R) →
  qy.l1 k L (ks.map midK) (ks.map (·.2.2)) (n : Int) L x26 x27 T (T.length : Int) (j : Int) p.f0 p.f1 = some R := by
 induction d with
 | zero =>
  intro k j n ks hj hks hn hk hc
  obtain ⟨k, rfl⟩ : ∃ m, k = m + 1 := ⟨k - 1, by omega⟩
  simp only [qy.l1]
  rw [if_neg (by omega)]
  rw [List.drop_of_length_le (by omega)] at hc
  exact hc k (by omega)
 | succ d ih =>
  intro k j n ks hj hks hn hk hc
  obtain ⟨k, rfl⟩ : ∃ m, k = m + 1 := ⟨k - 1, by omega⟩
  have hlt : j < T.length := by omega
  have hcl : ks.count (keyP p T[j]) ≤ ks.length := List.count_le_length
  have hn2 : n + ks.length + (ks.length + 1 + d) * d ≤ 100000000 := by
   have e : (ks.length + (d + 1)) * (d + 1) = (ks.length + 1 + d) * d + (ks.length + 1 + d) := by rw [show ks.length + (d + 1) = ks.length + 1 + d by omega, Nat.mul_succ]
   rw [e] at hn
   omega
  simp only [qy.l1]
  rw [if_pos (by omega), if_pos (by omega), if_pos (by omega), xb T j hlt]
  have := rectS_l2 L x26 x27 (T.length : Int) (j : Int) T p.f0 p.f1 ks (by omega) (keyP p T[j]) (K0 + d * 5002 + 1) R ks.length k 0 n (by omega) (by omega) (by omega) (fun k hk => by
   rw [w64 (x := (j : Int) + 1) (by omega) (by omega)]
   refine ih k (j + 1) (n + (ks.drop 0).count (keyP p T[j])) (ks ++ [keyP p T[j]]) (by omega) (by simp; omega) ?_ hk (fun k hk => ?_)
   ·rw [List.drop_zero, List.length_append, List.length_singleton]
    omega
   ·have := hc k hk
    rw [List.drop_eq_getElem_cons hlt, List.map_cons] at this
    exact this)
  rw [List.length_map]
  exact this
/-- The letters of a draw's text are bytes. -/
def xw (l : List Int) : Prop := l.length ≤ 9223372036854775807 ∧ ∀ x ∈ l, 0 ≤ x ∧ x ≤ 255
theorem and255 (x : Int) : 0 ≤ wrap64 (Go.bits .and .u64 x 255) ∧ wrap64 (Go.bits .and .u64 x 255) ≤ 255 := by
 obtain ⟨n, hn, e⟩ : ∃ n : Nat, n ≤ 255 ∧ Go.bits .and .u64 x 255 = IntKind.u64.wrap (n : Int) := by
  refine ⟨(BitVec.ofInt 64 x).toNat &&& 255, Nat.and_le_right, ?_⟩
  show IntKind.u64.wrap (((BitVec.ofInt 64 x &&& BitVec.ofInt 64 255).toNat : Nat) : Int) = _
  rw [BitVec.toNat_and, show (BitVec.ofInt 64 255).toNat = 255 from rfl]
 have e2 : IntKind.u64.wrap (n : Int) = n := by
  simp [IntKind.wrap, IntKind.bits, IntKind.signed]
  omega
 rw [e, e2, w64 (by omega) (by omega)]
 omega
theorem rd_byte (l : List Int) (h : xw l) (i : Int) : 0 ≤ rd l i ∧ rd l i ≤ 255 := by
 unfold rd
 by_cases c : i.toNat < l.length
 ·rw [List.getD_eq_getElem?_getD, List.getElem?_eq_getElem c, Option.getD_some]
  exact h.2 _ (List.getElem_mem c)
 ·rw [List.getD_eq_getElem?_getD, List.getElem?_eq_none (by omega)]
  decide
theorem next_some (l : List Int) (h : xw l) (at_ sd : Int) (ha : 0 ≤ at_ ∧ at_ ≤ 1000000) : ∃ b sd', jo.f l at_ sd = some (b, at_ + 1, sd') ∧ 0 ≤ b ∧ b ≤ 255 := by
 have hb := rd_byte l h at_
 have hl := h.1
 unfold jo.f
 rw [w64 (x := at_ + 1) (by omega) (by omega), w64 (x := rd l at_) (by omega) (by omega)]
 by_cases c : at_ < (l.length : Int)
 ·rw [if_pos c, if_pos ha.1, if_pos (by omega)]
  exact ⟨_, _, rfl, hb⟩
 ·rw [if_neg c, if_neg (by omega)]
  exact ⟨_, _, rfl, and255 _⟩
theorem xq (l : List Int) (h : xw l) (at_ sd n : Int) (ha : 0 ≤ at_ ∧ at_ ≤ 1000000) (hn : 2 ≤ n ∧ n ≤ 200) : ∃ b sd', zg.f l at_ sd n = some (b, at_ + 1, sd') ∧ 0 ≤ b ∧ b < n := by
 obtain ⟨b, sd', e, h1, h2⟩ := next_some l h at_ sd ha
 unfold zg.f
 rw [if_neg (by omega), e, Option.bind_some, if_neg (by omega), if_neg (by omega)]
 refine ⟨_, _, rfl, Int.tmod_nonneg _ h1, Int.tmod_lt_of_pos _ (by omega)⟩
theorem one_some (l : List Int) (h : xw l) (at_ sd n : Int) (ha : 0 ≤ at_ ∧ at_ ≤ 1000000) (hn : 2 ≤ n ∧ n ≤ 200) : ∃ b sd', zH.f l at_ sd n = some (b, at_ + 1, sd') := by
 obtain ⟨b, sd', e, _⟩ := xq l h at_ sd n ha hn
 unfold zH.f
 rw [e, Option.bind_some]
 exact ⟨_, _, rfl⟩
theorem among_some (l : List Int) (h : xw l) (at_ sd : Int) (L : List Int) (ha : 0 ≤ at_ ∧ at_ ≤ 1000000) (hn : 2 ≤ L.length ∧ L.length ≤ 200) : ∃ b sd', zu.f l at_ sd L = some (b, at_ + 1, sd') := by
 obtain ⟨b, sd', e, h1, h2⟩ := xq l h at_ sd (L.length : Int) ha (by omega)
 unfold zu.f
 rw [e, Option.bind_some, if_pos h1, if_pos h2]
 exact ⟨_, _, rfl⟩
theorem board_some (l : List Int) (h : xw l) (at_ sd m : Int) (ha : 0 ≤ at_ ∧ at_ ≤ 1000) (hm : 2 ≤ m ∧ m ≤ 100) : ∃ w v at' sd', zY.f l at_ sd m = some (w, v, at', sd') ∧ 0 ≤ at' ∧ at' ≤ at_ + 3 := by
 obtain ⟨b, s1, e1⟩ := one_some l h at_ sd 10 (by omega) (by omega)
 unfold zY.f
 rw [e1, Option.bind_some]
 by_cases c : b = true
 ·obtain ⟨x, s2, e2⟩ := among_some l h (at_ + 1) s1 [0, 1, m, wrap64 (m + 1), (-1), 4611686018427387904] (by omega) (by simp)
  obtain ⟨y, s3, e3⟩ := among_some l h (at_ + 1 + 1) s2 [1, 2, m, wrap64 (m + 1), 0] (by omega) (by simp)
  rw [if_pos c, e2, Option.bind_some, e3, Option.bind_some]
  exact ⟨_, _, _, _, rfl, by show 0 ≤ at_ + 1 + 1 + 1; omega, by show at_ + 1 + 1 + 1 ≤ _; omega⟩
 ·obtain ⟨x, s2, e2, _⟩ := xq l h (at_ + 1) s1 m (by omega) (by omega)
  obtain ⟨y, s3, e3, _⟩ := xq l h (at_ + 1 + 1) s2 m (by omega) (by omega)
  rw [if_neg c, e2, Option.bind_some, e3, Option.bind_some]
  exact ⟨_, _, _, _, rfl, by show 0 ≤ at_ + 1 + 1 + 1; omega, by show at_ + 1 + 1 + 1 ≤ _; omega⟩
abbrev visAh := Bool
def visTh (_tw : Int) (a b c : S36) (acc : Bool) : Bool := acc || (tri a.f0 a.f1 b.f0 b.f1 c.f0 c.f1 == 0)
theorem visT_eqh (tw : Int) (a b c : S36) (acc : Bool) (ha : inB a) (hb : inB b) (hc : inB c) : jZ.f a.f0 a.f1 b.f0 b.f1 c.f0 c.f1 acc = some (visTh tw a b c acc) := by
 unfold jZ.f visTh
 cases acc with
 | true => rfl
 | false =>
  rw [if_neg (by decide), turn_eq 100 (by omega) ha.1 ha.2 hb.1 hb.2 hc.1 hc.2, Option.bind_some, Bool.false_or]
def T2h (tw : Int) (a b : S36) : List S36 → visAh → visAh
 | [], acc => acc
 | c :: l, acc => T2h tw a b l (visTh tw a b c acc)
def T1h (tw : Int) (L : List S36) (a : S36) : Nat → Nat → visAh → visAh
 | 0, _, acc => acc
 | d + 1, j, acc => T1h tw L a d (j + 1) (T2h tw a (L.getD j z36) (L.take j) acc)
def T0h (tw : Int) (L : List S36) : Nat → Nat → visAh → visAh
 | 0, _, acc => acc
 | d + 1, i, acc => T0h tw L d (i + 1) (T1h tw L (L.getD i z36) i 0 acc)
theorem threes_l2h (tw : Int) (L : List S36) (n i : Int) (a b : S36) (ha : inB a) (hb : inB b) (C : List S36) (hC : ∀ p ∈ C, inB p) (hlen : C.length ≤ 100000) (K0 : Nat) (R : visAh) (B : List S36) (nB x21 : Int) (d : Nat) :
  ∀ (k j : Nat) (acc : visAh), j + d = C.length → K0 + d + 10 ≤ k →
  (∀ k', K0 ≤ k' → qK.l1 k' L L n i B nB (wrap64 (x21 + 1)) (T2h tw a b (C.drop j) acc)  a.f0 a.f1 = some R) →
  qK.l2 k L L n i B nB x21 C (C.length : Int) (j : Int) acc  a.f0 a.f1 b.f0 b.f1 = some R := by
 induction d with
 | zero =>
  intro k j acc hj hk hc
  obtain ⟨k, rfl⟩ : ∃ m, k = m + 1 := ⟨k - 1, by omega⟩
  have h1 := hc k (by omega)
  rw [List.drop_of_length_le (by omega)] at h1
  simp only [qK.l2]
  rw [if_neg (by omega)]
  exact h1
 | succ d ih =>
  intro k j acc hj hk hc
  obtain ⟨k, rfl⟩ : ∃ m, k = m + 1 := ⟨k - 1, by omega⟩
  have hlt : j < C.length := by omega
  have hr : qb C (j : Int) = C[j] := by
   unfold qb
   simp [List.getD_eq_getElem?_getD, List.getElem?_eq_getElem hlt]
  have hp := hC C[j] (List.getElem_mem hlt)
  rw [List.drop_eq_getElem_cons hlt, T2h] at hc
  simp only [qK.l2]
  rw [if_pos (by omega), if_pos (by omega), if_pos (by omega), hr]
  rw [visT_eqh tw a b C[j] acc ha hb hp, Option.bind_some, w64 (x := (j : Int) + 1) (by omega) (by omega)]
  exact ih k (j + 1) _ (by omega) (by omega) hc
theorem threes_l1h (tw : Int) (L : List S36) (hL : ∀ p ∈ L, inB p) (hlen : L.length ≤ 100000) (n : Int) (i m : Nat) (_hi : i ≤ L.length) (hm : m ≤ L.length) (a : S36) (ha : inB a) (K0 : Nat) (R : visAh) (d : Nat) :
  ∀ (k j : Nat) (acc : visAh), j + d = m → K0 + d * (L.length + 20) + 1 ≤ k →
  (∀ k', K0 ≤ k' → qK.l0 k' L L n (wrap64 ((i : Int) + 1)) (T1h tw L a d j acc)  = some R) →
  qK.l1 k L L n (i : Int) (L.take m) ((L.take m).length : Int) (j : Int) acc  a.f0 a.f1 = some R := by
 have hti : (L.take m).length = m := by rw [List.length_take]; omega
 induction d with
 | zero =>
  intro k j acc hj hk hc
  obtain ⟨k, rfl⟩ : ∃ m, k = m + 1 := ⟨k - 1, by omega⟩
  have h1 := hc k (by omega)
  rw [T1h] at h1
  simp only [qK.l1]
  rw [if_neg (by omega)]
  exact h1
 | succ d ih =>
  intro k j acc hj hk hc
  obtain ⟨k, rfl⟩ : ∃ m, k = m + 1 := ⟨k - 1, by omega⟩
  rw [Nat.succ_mul] at hk
  have hr : qb (L.take m) (j : Int) = L.getD j z36 := by
   unfold qb
   rw [List.getD_eq_getElem?_getD, List.getD_eq_getElem?_getD, List.getElem?_take]
   simp [show j < m by omega]
  have hp : inB (L.getD j z36) := by
   rw [List.getD_eq_getElem?_getD, List.getElem?_eq_getElem (by omega), Option.getD_some]
   exact hL _ (List.getElem_mem _)
  have htj : (L.take j).length = j := by rw [List.length_take]; omega
  rw [T1h] at hc
  simp only [qK.l1]
  rw [if_pos (by omega), if_pos (by omega), if_pos (by omega), if_pos (by omega), Option.bind_some, hr, show ((j : Int)).toNat = j from rfl]
  refine threes_l2h tw L _ _ a (L.getD j z36) ha hp (L.take j) (fun p h => hL p (List.mem_of_mem_take h)) (by omega) (K0 + d * (L.length + 20) + 1) R _ _ _ (L.take j).length k 0 acc (by omega) (by omega) fun k' hk' => ?_
  rw [w64 (x := (j : Int) + 1) (by omega) (by omega), List.drop_zero]
  exact ih k' (j + 1) _ (by omega) (by omega) hc
theorem threes_l0h (tw : Int) (L : List S36) (hL : ∀ p ∈ L, inB p) (hlen : L.length ≤ 2000) (d : Nat) : ∀ (k i : Nat) (acc : visAh), i + d = L.length → d * 5000000 + 5 ≤ k →
  qK.l0 k L L (L.length : Int) (i : Int) acc  = some (T0h tw L d i acc) := by
 induction d with
 | zero =>
  intro k i acc hi hk
  obtain ⟨k, rfl⟩ : ∃ m, k = m + 1 := ⟨k - 1, by omega⟩
  simp only [qK.l0]
  rw [if_neg (by omega), T0h]
 | succ d ih =>
  intro k i acc hi hk
  obtain ⟨k, rfl⟩ : ∃ m, k = m + 1 := ⟨k - 1, by omega⟩
  have hr : qb L (i : Int) = L.getD i z36 := by
   unfold qb
   rw [show ((i : Int)).toNat = i from rfl]
  have hp : inB (L.getD i z36) := by
   rw [List.getD_eq_getElem?_getD, List.getElem?_eq_getElem (by omega), Option.getD_some]
   exact hL _ (List.getElem_mem _)
  have hm : i * (L.length + 20) ≤ 2000 * 2020 := Nat.mul_le_mul (by omega) (by omega)
  rw [T0h]
  simp only [qK.l0]
  rw [if_pos (by omega), if_pos (by omega), if_pos (by omega), if_pos (by omega), Option.bind_some, hr, show ((i : Int)).toNat = i from rfl]
  have hgo := threes_l1h tw L hL (by omega) (L.length : Int) i i (by omega) (by omega) (L.getD i z36) hp (d * 5000000 + 5) (T0h tw L d (i + 1) (T1h tw L (L.getD i z36) i 0 acc)) i k 0 acc (by omega) (by omega) fun k' hk' => by
   rw [w64 (x := (i : Int) + 1) (by omega) (by omega)]
   exact ih k' (i + 1) _ (by omega) hk'
  exact hgo
theorem T2_anyh (tw : Int) (a b : S36) (l : List S36) : ∀ acc, T2h tw a b l acc = (acc || l.any (fun c => turnP a b c == 0)) := by
 induction l with
 | nil => intro acc; simp [T2h]
 | cons c l ih =>
  intro acc
  rw [T2h, ih, List.any_cons, ← Bool.or_assoc]
  rfl
theorem T1_anyh (tw : Int) (L : List S36) (a : S36) (d : Nat) : ∀ (j : Nat) (acc : Bool), T1h tw L a d j acc = (acc || pairAny L a d j) := by
 induction d with
 | zero => intro j acc; simp [T1h, pairAny]
 | succ d ih =>
  intro j acc
  rw [T1h, ih, T2_anyh, pairAny, Bool.or_assoc]
theorem T0_anyh (tw : Int) (L : List S36) (d : Nat) : ∀ (i : Nat) (acc : Bool), T0h tw L d i acc = (acc || xa L d i) := by
 induction d with
 | zero => intro i acc; simp [T0h, xa]
 | succ d ih =>
  intro i acc
  rw [T0h, ih, T1_anyh, xa, Bool.or_assoc]
/-- What HasThree answers. -/
def hasV (l : List S36) : Bool × Bool := if l.length > 50 then (false, false) else if l.all pegB = true then (if jT [] l = true then (xa l l.length 0, true) else (false, false)) else (false, false)
theorem hasThree_val (k : Nat) (hk : 300000000 ≤ k) (l : List S36) : qI.f k l = some (hasV l) ∧ jy.f k l = some (hasV l) := by
 unfold qI.f jy.f
 by_cases c : l.length > 50
 ·rw [if_pos (by omega), if_pos (by omega)]
  unfold hasV
  rw [if_pos (by omega)]
  exact ⟨rfl, rfl⟩
 ·rw [if_neg (by omega), if_neg (by omega), arePegs_eq k l (by omega) (by omega), Option.bind_some]
  have hm : l.length * (l.length + 2) ≤ 50 * 52 := Nat.mul_le_mul (by omega) (by omega)
  have hpb : (l.all fun p => decide (pegP p.f0 p.f1)) = l.all pegB := rfl
  rw [hpb]
  by_cases hp : l.all pegB = true
  ·have hall : allP l := fun q hq => by
    have := (List.all_eq_true.1 hp) q hq
    unfold pegB at this
    rwa [decide_eq_true_eq] at this
   have hspec := hasS_loop l.length (by omega) (xa l l.length 0, true) 250000 l [] k (by simp) (by omega) (fun _ k hk => by
    have := hasS_l2 l hall (by omega) l.length k 0 false (by omega) (by omega)
    rw [Bool.false_or] at this
    simpa using this)
   simp only [List.nil_append, List.length_nil] at hspec
   rw [show ((0 : Nat) : Int) = 0 from rfl] at hspec
   have hT := threes_l0h 0 l (fun q hq => by
    have := hall q hq
    unfold pegP at this
    unfold inB
    omega) (by omega) l.length k 0 false (by omega) (by omega)
   rw [T0_anyh, Bool.false_or] at hT
   rw [show ((0 : Nat) : Int) = 0 from rfl] at hT
   have e : ((Go.Lib.compactUpTo (jY l).toArray (jY l).length).length : Int) = (l.length : Int) ↔ jT [] l = true := by
    rw [distFrom_iff, ← setP_length]
    unfold setP
    simp
    omega
   have hv : hasV l = (if jT [] l = true then (xa l l.length 0, true) else (false, false)) := by
    unfold hasV
    rw [if_neg (by omega), if_pos hp]
   have himpl : ((xc.f l).bind fun t => (qW.f t).bind fun t => if (t.length : Int) = (l.length : Int) then (qK.f k l false).bind fun t => some (t, true) else some (false, false)) = some (if jT [] l = true then (xa l l.length 0, true) else (false, false)) := by
    rw [sorted_eq l (by omega), Option.bind_some]
    unfold qW.f
    rw [if_pos (by rw [sortP_length]; omega), Option.bind_some]
    by_cases hd : jT [] l = true
    ·rw [if_pos hd, if_pos (e.2 hd)]
     unfold qK.f
     rw [hT, Option.bind_some]
    ·rw [if_neg hd, if_neg (fun h => hd (e.1 h))]
   rw [hspec, if_pos hp, hp, Bool.true_and]
   exact ⟨by rw [hv], by rw [hv]; exact himpl⟩
  ·have hp' : l.all pegB = false := Bool.eq_false_iff.mpr hp
   have hspec := hasS_loop l.length (by omega) (false, false) 250000 l [] k (by simp) (by omega) (fun h => by
    rw [hp', Bool.false_and] at h
    exact absurd h (by decide))
   simp only [List.nil_append, List.length_nil, ite_self] at hspec
   rw [show ((0 : Nat) : Int) = 0 from rfl] at hspec
   have hv : hasV l = (false, false) := by
    unfold hasV
    rw [if_neg (by omega), if_neg hp]
   rw [if_neg hp, hspec, hv]
   exact ⟨rfl, rfl⟩
theorem eqS_len (r : List K3) : ∀ (n : Nat) (ks : List K3) (M : Nat), ks.length + r.length ≤ M → (eqS n ks r).2.length = ks.length + r.length ∧ (eqS n ks r).1 ≤ n + r.length * M := by
 induction r with
 | nil => intro n ks M _; simp [eqS]
 | cons x r ih =>
  intro n ks M h
  simp only [List.length_cons] at h ⊢
  have hcl : ks.count x ≤ ks.length := List.count_le_length
  obtain ⟨h1, h2⟩ := ih (n + ks.count x) (ks ++ [x]) M (by simp; omega)
  rw [eqS]
  refine ⟨by rw [h1]; simp; omega, ?_⟩
  rw [Nat.succ_mul]
  omega
theorem rectS_l0 (L : List S36) (hL : L.length ≤ 40) (K0 : Nat) (d : Nat) : ∀ (k i n : Nat) (ks : List K3) (R : Int × Bool), i + d = L.length → ks.length + d * 40 ≤ 1600 → n + d * 400000 ≤ 50000000 → K0 + d * 300000 + 1 ≤ k →
  ((((eqS n ks (keysF L d i)).1 : Nat) : Int), true) = R →
  qy.l0 k L (ks.map midK) (ks.map (·.2.2)) (n : Int) L (L.length : Int) (i : Int) = some R := by
 induction d with
 | zero =>
  intro k i n ks R hi hks hn hk hc
  obtain ⟨k, rfl⟩ : ∃ m, k = m + 1 := ⟨k - 1, by omega⟩
  simp only [qy.l0]
  rw [if_neg (by omega), ← hc]
  rfl
 | succ d ih =>
  intro k i n ks R hi hks hn hk hc
  obtain ⟨k, rfl⟩ : ∃ m, k = m + 1 := ⟨k - 1, by omega⟩
  have hlt : i < L.length := by omega
  have hg : L.getD i z36 = L[i] := by rw [List.getD_eq_getElem?_getD, List.getElem?_eq_getElem hlt, Option.getD_some]
  have ht : (L.take i).length = i := by rw [List.length_take]; omega
  have hel := eqS_len ((L.take i).map (keyP L[i])) n ks 1600 (by rw [List.length_map]; omega)
  rw [List.length_map, ht] at hel
  have hmul : (ks.length + i) * i ≤ 1600 * 40 := Nat.mul_le_mul (by omega) (by omega)
  have hmul2 : i * 1600 ≤ 40 * 1600 := Nat.mul_le_mul_right _ (by omega)
  simp only [qy.l0]
  rw [if_pos (by omega), if_pos (by omega), if_pos (by omega), if_pos (by omega), Option.bind_some, xb L i hlt, Int.toNat_natCast]
  refine rectS_l1 L (L.length : Int) (i : Int) L[i] (L.take i) (by omega) (K0 + d * 300000 + 1) R (L.take i).length k 0 n ks (by omega) (by omega) (by rw [ht]; omega) (by rw [ht]; omega) (fun k hk => ?_)
  rw [w64 (by omega) (by omega), List.drop_zero]
  refine ih k (i + 1) _ _ R (by omega) (by omega) (by omega) hk ?_
  rw [← hc, keysF, eqS_append, hg]
theorem rect_both (w h : Int) : ∃ R, (∀ W H : Nat, w = W → h = H → (1 ≤ W ∧ W ≤ 6) → (1 ≤ H ∧ H ≤ 6) → R = ((((eqS 0 [] (keysF (zl H 0 W) (zl H 0 W).length 0)).1 : Nat) : Int), true)) ∧ (¬ ((1 ≤ w ∧ w ≤ 6) ∧ (1 ≤ h ∧ h ≤ 6)) → R = (0, false)) ∧ ∀ k, 13000000 ≤ k → qy.f k w h = some R ∧ qr.f k w h = some R := by
 by_cases c : (1 ≤ w ∧ w ≤ 6) ∧ (1 ≤ h ∧ h ≤ 6)
 ·obtain ⟨W, rfl⟩ : ∃ n : Nat, w = n := ⟨w.toNat, by omega⟩
  obtain ⟨H, rfl⟩ : ∃ n : Nat, h = n := ⟨h.toNat, by omega⟩
  have hm : W * H ≤ 6 * 6 := Nat.mul_le_mul (by omega) (by omega)
  have hlen := jF H 0 W
  have hkl := keysF_length (zl H 0 W) (by omega) (zl H 0 W).length 0 (by omega)
  obtain ⟨e1, e2, e3⟩ := eqS_put (keysF (zl H 0 W) (zl H 0 W).length 0) 0 [] [] 0 (by omega) (fun x => by rw [cnt_nil]; rfl) rfl (fun p hp => absurd hp (by simp)) (by simp) rfl
  refine ⟨((((eqS 0 [] (keysF (zl H 0 W) (zl H 0 W).length 0)).1 : Nat) : Int), true), fun W' H' q1 q2 _ _ => by rw [show W' = W by omega, show H' = H by omega], fun q => absurd c q, fun k hk => ⟨?_, ?_⟩⟩
  ·unfold qy.f
   rw [jX, Option.bind_some, if_pos (by simpa using c), ctPegs_eq k W H (by omega) (by omega) (by omega), Option.bind_some]
   exact rectS_l0 (zl H 0 W) (by omega) 0 (zl H 0 W).length k 0 0 [] _ (by omega) (by simp; omega) (by omega) (by omega) rfl
  ·unfold qr.f
   rw [xn, Option.bind_some, if_pos (by simpa using c), board_eq k W H (by omega) (by omega) (by omega), Option.bind_some]
   refine rectI_l0 (zl H 0 W) (by omega) 3 (zl H 0 W).length k 0 [] _ (by omega) (by omega) (fun k hk => ?_)
   rw [(sumV_two k hk _ e2 e3).1, Option.bind_some, e1]
 ·refine ⟨(0, false), fun W' H' q1 q2 q3 q4 => absurd (show (1 ≤ w ∧ w ≤ 6) ∧ (1 ≤ h ∧ h ≤ 6) by omega) c, fun _ => rfl, fun k _ => ⟨?_, ?_⟩⟩
  ·unfold qy.f
   rw [jX, Option.bind_some, if_neg (by simpa using c)]
  ·unfold qr.f
   rw [xn, Option.bind_some, if_neg (by simpa using c)]
theorem inside_right : ∀ a b : Fin 6, CS0 (zl (b.val + 1) 0 (a.val + 1)) ((a.val + 1) * (b.val + 1)) 0 = CT0 (zl (b.val + 1) 0 (a.val + 1)) ((a.val + 1) * (b.val + 1)) 0 := by decide +kernel
theorem right_both (w h : Int) (k : Nat) (hk : 11000000000 ≤ k) : ∃ r, (∀ W H : Nat, w = W → h = H → (1 ≤ W ∧ W ≤ 6) → (1 ≤ H ∧ H ≤ 6) → r = (((CS0 (zl H 0 W) (zl H 0 W).length 0 : Nat) : Int), true)) ∧ (¬ ((1 ≤ w ∧ w ≤ 6) ∧ (1 ≤ h ∧ h ≤ 6)) → r = (0, false)) ∧ qH.f k w h = some r ∧ jp.f k w h = some r := by
 unfold qH.f jp.f
 rw [ctBoardM w h 6 (by omega), isBoardM w h 6 (by omega), Option.bind_some, Option.bind_some]
 by_cases c : (1 ≤ w ∧ w ≤ 6) ∧ (1 ≤ h ∧ h ≤ 6)
 ·rw [decide_eq_true c, if_pos rfl, if_pos rfl]
  obtain ⟨W, rfl⟩ : ∃ W : Nat, w = W := ⟨w.toNat, by omega⟩
  obtain ⟨H, rfl⟩ : ∃ H : Nat, h = H := ⟨h.toNat, by omega⟩
  have hb : ∀ p ∈ zl H 0 W, inB p := by
   intro p hp
   have := rows_bound H 0 W 100 (by omega) (by omega) p hp
   unfold inB
   omega
  have hlen := jF H 0 W
  have hm : W * H ≤ 6 * 6 := Nat.mul_le_mul (by omega) (by omega)
  have hm2 : (zl H 0 W).length * (zl H 0 W).length ≤ 36 * 36 := Nat.mul_le_mul (by omega) (by omega)
  rw [ctPegs_eq k W H (by omega) (by omega) (by omega), Option.bind_some, board_eq k W H (by omega) (by omega) (by omega), Option.bind_some]
  have h1 := rightS_l0 0 (zl H 0 W) hb (by omega) (zl H 0 W).length k 0 0 (by omega) (by omega)
  have h2 := threes_l0 0 (zl H 0 W) hb (by omega) (zl H 0 W).length k 0 0 (by omega) (by omega)
  have e1 := S0_nat 0 (zl H 0 W) 1296 hm2 (zl H 0 W).length 0 0 (by omega) (by omega)
  have e2 := T0_nat 0 (zl H 0 W) 1296 hm2 (zl H 0 W).length 0 0 (by omega) (by omega)
  have e3 : CS0 (zl H 0 W) (zl H 0 W).length 0 = CT0 (zl H 0 W) (zl H 0 W).length 0 := by
   have := inside_right ⟨W - 1, by omega⟩ ⟨H - 1, by omega⟩
   dsimp only at this
   rw [show W - 1 + 1 = W by omega, show H - 1 + 1 = H by omega, ← hlen] at this
   exact this
  rw [show ((0 : Nat) : Int) = 0 from rfl] at h1 h2 e1 e2
  rw [e1] at h1
  rw [e2, ← e3] at h2
  refine ⟨_, fun W' H' q1 q2 _ _ => ?_, fun q => absurd c q, h1, ?_⟩
  ·rw [show W' = W by omega, show H' = H by omega, Nat.zero_add]
  unfold za.f
  rw [h2, Option.bind_some]
 ·rw [decide_eq_false c, if_neg (by decide), if_neg (by decide)]
  exact ⟨(0, false), fun W' H' q1 q2 q3 q4 => absurd (show (1 ≤ w ∧ w ≤ 6) ∧ (1 ≤ h ∧ h ≤ 6) by omega) c, fun _ => rfl, rfl, rfl⟩
def triV (a b : Nat) : Int := wrap64 (choose3 (wrap64 (((a : Int) + 1) * ((b : Int) + 1))) - (totalB a b : Int))
theorem tri_val (a b : Fin 12) (k : Nat) (hk : 21000000 ≤ k) : zZ.f k ((a.val : Int) + 1) ((b.val : Int) + 1) = some (triV a.val b.val, true) := by
 have c : (1 ≤ (a.val : Int) + 1 ∧ (a.val : Int) + 1 ≤ 12) ∧ (1 ≤ (b.val : Int) + 1 ∧ (b.val : Int) + 1 ≤ 12) := by omega
 unfold zZ.f jR.f
 rw [xn, Option.bind_some, decide_eq_true c, if_pos rfl, choose3_eq k _ (by omega), straight_eq k a b hk]
 rfl
/-- How many couples of a list are alike. -/
def prC : List K3 → Nat
 | [] => 0
 | x :: r => r.count x + prC r
theorem eqS_pr (r : List K3) : ∀ (n : Nat) (ks : List K3), (eqS n ks r).1 = n + (r.map fun x => ks.count x).sum + prC r := by
 induction r with
 | nil => intro n ks; simp [eqS, prC]
 | cons x r ih =>
  intro n ks
  have e : ∀ r : List K3, (r.map fun y => (ks ++ [x]).count y).sum = (r.map fun y => ks.count y).sum + r.count x := by
   intro r
   induction r with
   | nil => rfl
   | cons y r ih2 =>
    rw [List.map_cons, List.sum_cons, ih2, List.map_cons, List.sum_cons, List.count_cons, List.count_append, List.count_cons, List.count_nil]
    have : (if (x == y) = true then 1 else 0) = (if (y == x) = true then 1 else 0) := by
     by_cases h : x = y
     ·rw [h]
     ·rw [if_neg (by simpa using h), if_neg (by simpa using fun q => h q.symm)]
    omega
  rw [eqS, ih, prC, e r, List.map_cons, List.sum_cons]
  omega
def codK (x : K3) : Nat := Nat.add (Nat.mul (Nat.add (Nat.mul x.1.toNat 32) x.2.1.toNat) 128) x.2.2.toNat
def okK (x : K3) : Bool := decide ((0 ≤ x.1 ∧ x.1 < 32) ∧ (0 ≤ x.2.1 ∧ x.2.1 < 32) ∧ (0 ≤ x.2.2 ∧ x.2.2 < 128))
def cntN (c : Nat) : List Nat → Nat
 | [] => 0
 | y :: r => Nat.add (cond (Nat.beq c y) 1 0) (cntN c r)
def prN : List Nat → Nat
 | [] => 0
 | y :: r => Nat.add (cntN y r) (prN r)
theorem nbeq {a b : Nat} : Nat.beq a b = true ↔ a = b := by rw [Nat.beq_eq]
theorem codK_inj {x y : K3} (hx : okK x = true) (hy : okK y = true) : codK x = codK y ↔ x = y := by
 obtain ⟨x0, x1, x2⟩ := x
 obtain ⟨y0, y1, y2⟩ := y
 unfold okK at hx hy
 rw [decide_eq_true_eq] at hx hy
 simp only at hx hy
 constructor
 ·intro h
  have h' : (x0.toNat * 32 + x1.toNat) * 128 + x2.toNat = (y0.toNat * 32 + y1.toNat) * 128 + y2.toNat := h
  have e0 : x0 = y0 := by omega
  have e1 : x1 = y1 := by omega
  have e2 : x2 = y2 := by omega
  rw [e0, e1, e2]
 ·intro h
  rw [h]
theorem cnt_cod (x : K3) (hx : okK x = true) (r : List K3) (hr : r.all okK = true) : r.count x = cntN (codK x) (r.map codK) := by
 induction r with
 | nil => rfl
 | cons y r ih =>
  rw [List.all_cons, Bool.and_eq_true] at hr
  rw [List.count_cons, List.map_cons, cntN, ih hr.2]
  show _ = cond (Nat.beq (codK x) (codK y)) 1 0 + cntN (codK x) (r.map codK)
  by_cases h : x = y
  ·have hb : Nat.beq (codK x) (codK y) = true := nbeq.2 ((codK_inj hx hr.1).2 h)
   rw [hb, if_pos (by rw [h]; exact beq_self_eq_true y)]
   show _ + 1 = 1 + _
   omega
  ·have hb : Nat.beq (codK x) (codK y) = false := Bool.eq_false_iff.2 fun q => h ((codK_inj hx hr.1).1 (nbeq.1 q))
   rw [hb, if_neg (by simpa using fun q => h q.symm)]
   show _ + 0 = 0 + _
   omega
theorem pr_cod (r : List K3) (hr : r.all okK = true) : prC r = prN (r.map codK) := by
 induction r with
 | nil => rfl
 | cons x r ih =>
  rw [List.all_cons, Bool.and_eq_true] at hr
  rw [prC, List.map_cons, prN, ih hr.2, cnt_cod x hr.1 r hr.2]
  rfl
def tabN (l : List (List Nat)) (a b : Nat) : Nat := (l.getD a []).getD b 0
def rectT : List (List Nat) := [[0, 0, 0, 0, 0, 0], [0, 1, 3, 6, 10, 15], [0, 3, 10, 20, 33, 49], [0, 6, 20, 44, 74, 110], [0, 10, 33, 74, 130, 198], [0, 15, 49, 110, 198, 313]]
def rightT : List (List Nat) := [[0, 0, 0, 0, 0, 0], [0, 4, 14, 28, 46, 68], [0, 14, 44, 94, 158, 238], [0, 28, 94, 200, 342, 524], [0, 46, 158, 342, 596, 926], [0, 68, 238, 524, 926, 1444]]
theorem rect_tab : ∀ a b : Fin 6, ((keysF (zl (b.val + 1) 0 (a.val + 1)) ((a.val + 1) * (b.val + 1)) 0).all okK && Nat.beq (prN ((keysF (zl (b.val + 1) 0 (a.val + 1)) ((a.val + 1) * (b.val + 1)) 0).map codK)) (tabN rectT a.val b.val)) = true := by decide +kernel
theorem rect_val (a b : Fin 6) : (eqS 0 [] (keysF (zl (b.val + 1) 0 (a.val + 1)) (zl (b.val + 1) 0 (a.val + 1)).length 0)).1 = tabN rectT a.val b.val := by
 have h := rect_tab a b
 rw [Bool.and_eq_true] at h
 rw [jF, eqS_pr, pr_cod _ h.1, nbeq.1 h.2]
 have : ∀ r : List K3, (r.map fun x => ([] : List K3).count x).sum = 0 := by
  intro r
  induction r with
  | nil => rfl
  | cons x r ih => rw [List.map_cons, List.sum_cons, ih]; rfl
 rw [this]
 omega
theorem right_tab : ∀ a b : Fin 6, CS0 (zl (b.val + 1) 0 (a.val + 1)) ((a.val + 1) * (b.val + 1)) 0 = tabN rightT a.val b.val := by decide +kernel
def shapeOK (w h : Int) (R C : Nat) (t : Int) : Bool := match qX.f 400 w h, zt.f 400 w h with
 | some (s, true), some (u, true) => decide (s ≤ (R : Int) ∧ u ≤ (R : Int) ∧ ¬ (C : Int) < wrap64 (4 * u) ∧ (Int.tmod (C : Int) 2 = 0 ∨ ¬ w = 1) ∧ (C : Int) ≤ t)
 | _, _ => false
theorem shape_ok : ∀ a b : Fin 6, (shapeOK ((a.val : Int) + 1) ((b.val : Int) + 1) (tabN rectT a.val b.val) (tabN rightT a.val b.val) (triV a.val b.val) && Nat.beq (tabN rectT a.val b.val) (tabN rectT b.val a.val)) = true := by decide +kernel
/-- Numbers of a small board. -/
theorem fins6 (w h : Int) (c : (1 ≤ w ∧ w ≤ 6) ∧ (1 ≤ h ∧ h ≤ 6)) : ∃ a b : Fin 6, w = (a.val : Int) + 1 ∧ h = (b.val : Int) + 1 :=
 ⟨⟨(w - 1).toNat, by omega⟩, ⟨(h - 1).toNat, by omega⟩, by show w = (((w - 1).toNat : Nat) : Int) + 1; omega, by show h = (((h - 1).toNat : Nat) : Int) + 1; omega⟩
theorem rect_at (a b : Fin 6) (k : Nat) (hk : 13000000 ≤ k) : qy.f k ((a.val : Int) + 1) ((b.val : Int) + 1) = some ((tabN rectT a.val b.val : Int), true) ∧ qr.f k ((a.val : Int) + 1) ((b.val : Int) + 1) = some ((tabN rectT a.val b.val : Int), true) := by
 obtain ⟨R, h1, _, h3⟩ := rect_both ((a.val : Int) + 1) ((b.val : Int) + 1)
 have e := h1 (a.val + 1) (b.val + 1) (by omega) (by omega) (by omega) (by omega)
 rw [rect_val a b] at e
 rw [← e]
 exact h3 k hk
theorem right_at (a b : Fin 6) (k : Nat) (hk : 11000000000 ≤ k) : qH.f k ((a.val : Int) + 1) ((b.val : Int) + 1) = some ((tabN rightT a.val b.val : Int), true) ∧ jp.f k ((a.val : Int) + 1) ((b.val : Int) + 1) = some ((tabN rightT a.val b.val : Int), true) := by
 obtain ⟨R, h1, _, h3, h4⟩ := right_both ((a.val : Int) + 1) ((b.val : Int) + 1) k hk
 have e := h1 (a.val + 1) (b.val + 1) (by omega) (by omega) (by omega) (by omega)
 rw [jF, right_tab a b] at e
 rw [← e]
 exact ⟨h3, h4⟩
theorem ok_shape (a b : Fin 6) (k : Nat) (hk : 11000000000 ≤ k) : ∃ s u t, OkF k ((a.val : Int) + 1) ((b.val : Int) + 1) (tabN rectT a.val b.val : Int) (tabN rightT a.val b.val : Int) s u t := by
 have h := shape_ok a b
 rw [Bool.and_eq_true] at h
 have hs := nbeq.1 h.2
 have h := h.1
 unfold shapeOK at h
 cases e1 : qX.f 400 ((a.val : Int) + 1) ((b.val : Int) + 1) with
 | none => rw [e1] at h; exact absurd h (by simp)
 | some p1 =>
  cases e2 : zt.f 400 ((a.val : Int) + 1) ((b.val : Int) + 1) with
  | none => rw [e1, e2] at h; obtain ⟨_, b1⟩ := p1; cases b1 <;> exact absurd h (by simp)
  | some p2 =>
   rw [e1, e2] at h
   obtain ⟨s, b1⟩ := p1
   obtain ⟨u, b2⟩ := p2
   cases b1 <;> cases b2 <;> simp only [decide_eq_true_eq] at h <;> try (exact absurd h (by decide))
   obtain ⟨c1, c2, c3, c4, c5⟩ := h
   refine ⟨s, u, triV a.val b.val, ⟨xv (g := fun k => qX.f k _ _) (qX.mono _ _) (show 400 ≤ k by omega) e1, xv (g := fun k => zt.f k _ _) (zt.mono _ _) (show 400 ≤ k by omega) e2, ?_, tri_val ⟨a.val, by omega⟩ ⟨b.val, by omega⟩ k (by omega), by omega, by omega, c3, c4, by omega⟩⟩
   rw [hs]
   exact (rect_at b a k (by omega)).2
def sqOK (w h : Int) : Bool := match qX.f 400 w h, zk.f 400 w h, zt.f 400 w h, jB.f w h with
 | some (x, true), some (y, true), some (u, true), some (v, true) => decide (x = y ∧ u = v ∧ (w = h → x = wrap64 (Int.tdiv (wrap64 ((wrap64 (w * w)) * (wrap64 ((wrap64 (w * w)) - 1)))) 12)))
 | _, _, _, _ => false
theorem sq_ok : ∀ a b : Fin 12, sqOK ((a.val : Int) + 1) ((b.val : Int) + 1) = true := by decide +kernel
theorem sq_both (w h : Int) (k : Nat) (hk : 400 ≤ k) : ∃ x o u, qX.f k w h = some (x, o) ∧ zk.f k w h = some (x, o) ∧ zt.f k w h = some (u, o) ∧ jB.f w h = some (u, o) ∧ (o = true → w = h → x = wrap64 (Int.tdiv (wrap64 ((wrap64 (w * w)) * (wrap64 ((wrap64 (w * w)) - 1)))) 12)) := by
 by_cases c : (1 ≤ w ∧ w ≤ 12) ∧ (1 ≤ h ∧ h ≤ 12)
 ·obtain ⟨a, b, rfl, rfl⟩ := fins w h c
  have h := sq_ok a b
  unfold sqOK at h
  cases e1 : qX.f 400 ((a.val : Int) + 1) ((b.val : Int) + 1) with
  | none => rw [e1] at h; exact absurd h (by simp)
  | some p1 =>
   obtain ⟨x, b1⟩ := p1
   cases e2 : zk.f 400 ((a.val : Int) + 1) ((b.val : Int) + 1) with
   | none => rw [e1, e2] at h; cases b1 <;> exact absurd h (by simp)
   | some p2 =>
    obtain ⟨y, b2⟩ := p2
    cases e3 : zt.f 400 ((a.val : Int) + 1) ((b.val : Int) + 1) with
    | none => rw [e1, e2, e3] at h; cases b1 <;> cases b2 <;> exact absurd h (by simp)
    | some p3 =>
     obtain ⟨u, b3⟩ := p3
     cases e4 : jB.f ((a.val : Int) + 1) ((b.val : Int) + 1) with
     | none => rw [e1, e2, e3, e4] at h; cases b1 <;> cases b2 <;> cases b3 <;> exact absurd h (by simp)
     | some p4 =>
      obtain ⟨v, b4⟩ := p4
      rw [e1, e2, e3, e4] at h
      cases b1 <;> cases b2 <;> cases b3 <;> cases b4 <;> simp only [decide_eq_true_eq] at h <;> try (exact absurd h (by decide))
      obtain ⟨rfl, rfl, h3⟩ := h
      exact ⟨x, true, u, xv (g := fun k => qX.f k _ _) (qX.mono _ _) hk e1, xv (g := fun k => zk.f k _ _) (zk.mono _ _) hk e2, xv (g := fun k => zt.f k _ _) (zt.mono _ _) hk e3, rfl, fun _ => h3⟩
 ·refine ⟨0, false, 0, ?_, ?_, ?_, ?_, fun q => absurd q (by decide)⟩
  ·unfold qX.f
   rw [xn, Option.bind_some, decide_eq_false c, if_neg (by decide)]
  ·unfold zk.f
   rw [jX, Option.bind_some, decide_eq_false c, if_neg (by decide)]
  ·unfold zt.f
   rw [xn, Option.bind_some, decide_eq_false c, if_neg (by decide)]
  ·unfold jB.f
   rw [jX, Option.bind_some, decide_eq_false c, if_neg (by decide)]
def firstT : List (List (List S36)) := [[[⟨0, 0⟩], [⟨0, 0⟩, ⟨0, 1⟩], [⟨0, 0⟩, ⟨0, 1⟩], [⟨0, 0⟩, ⟨0, 1⟩]], [[⟨0, 0⟩, ⟨1, 0⟩], [⟨0, 0⟩, ⟨0, 1⟩, ⟨1, 0⟩, ⟨1, 1⟩], [⟨0, 0⟩, ⟨0, 1⟩, ⟨1, 0⟩, ⟨1, 1⟩], [⟨0, 0⟩, ⟨0, 1⟩, ⟨1, 0⟩, ⟨1, 1⟩]], [[⟨0, 0⟩, ⟨1, 0⟩], [⟨0, 0⟩, ⟨0, 1⟩, ⟨1, 0⟩, ⟨1, 1⟩], [⟨0, 0⟩, ⟨0, 1⟩, ⟨1, 0⟩, ⟨1, 2⟩, ⟨2, 1⟩, ⟨2, 2⟩], [⟨0, 0⟩, ⟨0, 1⟩, ⟨1, 0⟩, ⟨1, 2⟩, ⟨2, 1⟩, ⟨2, 2⟩]], [[⟨0, 0⟩, ⟨1, 0⟩], [⟨0, 0⟩, ⟨0, 1⟩, ⟨1, 0⟩, ⟨1, 1⟩], [⟨0, 0⟩, ⟨0, 1⟩, ⟨1, 0⟩, ⟨1, 2⟩, ⟨2, 1⟩, ⟨2, 2⟩], [⟨0, 0⟩, ⟨0, 1⟩, ⟨1, 2⟩, ⟨1, 3⟩, ⟨2, 0⟩, ⟨2, 1⟩, ⟨3, 2⟩, ⟨3, 3⟩]]]
def xG (c d : Nat) : List S36 := (firstT.getD c []).getD d []
theorem first_tab : ∀ c d : Fin 4, noP (zl (d.val + 1) 0 (c.val + 1)) [] [] = xG c.val d.val := by decide +kernel
def pegIn (c d : Nat) (p : S36) : Bool := decide ((0 ≤ p.f0 ∧ p.f0 < (c : Int) + 1) ∧ (0 ≤ p.f1 ∧ p.f1 < (d : Int) + 1))
def firstOK (c d : Nat) (r : List S36) (n : Nat) : Bool := decide (hasV r = (false, true)) && (Nat.beq r.length n && (decide (1 ≤ r.length ∧ r.length ≤ 2 * (c + 1) ∧ r.length ≤ 2 * (d + 1) ∧ r.length ≤ 16) && (r.all (pegIn c d) &&
 (((List.range r.length).all fun i => Nat.beq i 0 || decide (zW.f 400 ((r.take i).drop (i - 1)) [(⟨(qb r (i : Int)).f0, (qb r (i : Int)).f1⟩ : S36)] = some true)) && decide (zP.f 400 r r = some true)))))
theorem first_ok : ∀ c d : Fin 4, firstOK c.val d.val (xG c.val d.val) (xG d.val c.val).length = true := by decide +kernel
theorem fins4 (w h : Int) (c : (1 ≤ w ∧ w ≤ 4) ∧ (1 ≤ h ∧ h ≤ 4)) : ∃ a b : Fin 4, w = (a.val : Int) + 1 ∧ h = (b.val : Int) + 1 :=
 ⟨⟨(w - 1).toNat, by omega⟩, ⟨(h - 1).toNat, by omega⟩, by show w = (((w - 1).toNat : Nat) : Int) + 1; omega, by show h = (((h - 1).toNat : Nat) : Int) + 1; omega⟩
theorem firstNo_at (a b : Fin 4) (k : Nat) (hk : 300000 ≤ k) : zQ.f k ((a.val : Int) + 1) ((b.val : Int) + 1) = some (xG a.val b.val, true) ∧ zI.f k ((a.val : Int) + 1) ((b.val : Int) + 1) = some (xG a.val b.val, true) ∧ jb.f k ((a.val : Int) + 1) ((b.val : Int) + 1) = some (((xG a.val b.val).length : Int), true) ∧ jc.f k ((a.val : Int) + 1) ((b.val : Int) + 1) = some (((xG a.val b.val).length : Int), true) := by
 obtain ⟨R, h0, h1, h2, h3⟩ := firstNo_eq ((a.val : Int) + 1) ((b.val : Int) + 1)
 have c : (1 ≤ (a.val : Int) + 1 ∧ (a.val : Int) + 1 ≤ 4) ∧ (1 ≤ (b.val : Int) + 1 ∧ (b.val : Int) + 1 ≤ 4) := by omega
 have hall : allP (zl (b.val + 1) 0 (a.val + 1)) := fun p hp => by
  have := rows_bound (b.val + 1) 0 (a.val + 1) 4 (by omega) (by omega) p hp
  unfold pegP
  omega
 have hm : (a.val + 1) * (b.val + 1) ≤ 4 * 4 := Nat.mul_le_mul (by omega) (by omega)
 have hlen := jF (b.val + 1) 0 (a.val + 1)
 have e : zQ.f k ((a.val : Int) + 1) ((b.val : Int) + 1) = some (xG a.val b.val, true) := by
  unfold zQ.f
  rw [jX, Option.bind_some, if_pos (by simpa using c), show (a.val : Int) + 1 = ((a.val + 1 : Nat) : Int) from rfl, show (b.val : Int) + 1 = ((b.val + 1 : Nat) : Int) from rfl, ctPegs_eq k (a.val + 1) (b.val + 1) (by omega) (by omega) (by omega), Option.bind_some, ctLook_eq k _ hall (by omega) (by omega), Option.bind_some, first_tab a b]
 have er : R = (xG a.val b.val, true) := Option.some.inj ((h1 k hk).symm.trans e)
 subst er
 refine ⟨e, h3 k hk, h2 k hk, ?_⟩
 unfold jc.f
 rw [h3 k hk, Option.bind_some]
theorem zLess_mono' (k : Nat) (hk : 400 ≤ k) (x y : List S36) (r : Bool) (h : zW.f 400 x y = some r) : zW.f k x y = some r := xv (g := fun k => zW.f k x y) (zW.mono _ _) hk h
theorem mid_first (a b : Fin 4) (k : Nat) (hk : 300000000 ≤ k) (list : List S36) (has o : Bool) (hmore : o = true → has = true → 2 < (list.length : Int)) : MidF k ((a.val : Int) + 1) ((b.val : Int) + 1) (xG a.val b.val) list has o ∧ zP.f k (xG a.val b.val) (xG a.val b.val) = some true := by
 have h := first_ok a b
 have hr := (firstNo_at b a k (by omega)).2.2.2
 generalize xG a.val b.val = r at h ⊢
 unfold firstOK at h
 simp only [Bool.and_eq_true, decide_eq_true_eq, Nat.beq_eq, List.all_eq_true] at h
 obtain ⟨h1, h2, ⟨h3, h4, h5, h6⟩, h7, h8, h9⟩ := h
 have hget : ∀ x : Int, 0 ≤ x → x < (r.length : Int) → pegIn a.val b.val (qb r x) = true := fun x q1 q2 => by
  obtain ⟨n, rfl⟩ : ∃ n : Nat, x = n := ⟨x.toNat, by omega⟩
  rw [xb r n (by omega)]
  exact h7 _ (List.getElem_mem (by omega))
 refine ⟨⟨?_, ?_, ?_, ?_, by omega, ⟨by omega, ?_, ?_, hmore⟩⟩, xv (g := fun k => zP.f k r r) (zP.mono _ _) (show 400 ≤ k by omega) h9⟩
 ·rw [(hasThree_val k hk r).2, h1]
 ·rw [hr, h2]
 ·rw [w64 (by omega) (by omega)]
  omega
 ·rw [w64 (by omega) (by omega)]
  omega
 ·intro x q1 q2
  have := hget x q1 q2
  unfold pegIn at this
  rw [decide_eq_true_eq] at this
  omega
 ·intro x q1 q2
  obtain ⟨n, rfl⟩ : ∃ n : Nat, x = n := ⟨x.toNat, by omega⟩
  have := h8 n (List.mem_range.2 (by omega))
  rw [Bool.or_eq_true, Nat.beq_eq, decide_eq_true_eq] at this
  have h8' := this.resolve_left (by omega)
  rw [show ((n : Int)).toNat = n from rfl, show ((n : Int) - 1).toNat = n - 1 by omega]
  exact zLess_mono' k (by omega) _ _ _ h8'
theorem hasV_any (l : List S36) (h : (hasV l).1 = true) : xa l l.length 0 = true := by
 unfold hasV at h
 split at h
 ·exact absurd h (by decide)
 ·split at h
  ·split at h
   ·exact h
   ·exact absurd h (by decide)
  ·exact absurd h (by decide)
theorem has_more (l : List S36) (h1 : (hasV l).1 = true) : 2 < (l.length : Int) := by
 have h := hasV_any l h1
 rcases l with _ | ⟨p, _ | ⟨q, _ | ⟨s, l⟩⟩⟩
 ·exact absurd h (by decide)
 ·exfalso
  simp [xa, pairAny] at h
 ·exfalso
  simp [xa, pairAny] at h
 ·simp only [List.length_cons]
  omega
theorem sure_some (l : List Int) (h : xw l) (at_ sd a : Int) (ha : 0 ≤ at_ ∧ at_ ≤ 1000) (hn : 1 ≤ a ∧ a ≤ 50) : ∃ x y sd', jm.f l at_ sd a = some (x, y, at_ + 2, sd') := by
 unfold jm.f
 rw [w64 (x := 2 * a) (by omega) (by omega), w64 (x := 2 * a + 1) (by omega) (by omega)]
 obtain ⟨x, s1, e1, _⟩ := xq l h at_ sd (2 * a + 1) (by omega) (by omega)
 rw [e1, Option.bind_some]
 obtain ⟨y, s2, e2, _⟩ := xq l h (at_ + 1) s1 (2 * a + 1) (by omega) (by omega)
 rw [e2, Option.bind_some, Int.add_assoc]
 exact ⟨_, _, _, rfl⟩
theorem peg_some (l : List Int) (h : xw l) (at_ sd : Int) (ha : 0 ≤ at_ ∧ at_ ≤ 900) : ∃ r, xh.f l at_ sd = some r := by
 unfold xh.f
 obtain ⟨b, s1, e1⟩ := one_some l h at_ sd 12 (by omega) (by omega)
 rw [e1, Option.bind_some]
 by_cases c : b = true
 ·obtain ⟨x, s2, e2⟩ := among_some l h (at_ + 1) s1 [0, 40, (-40), 41, 4611686018427387904] (by omega) (by simp)
  obtain ⟨y, s3, e3⟩ := among_some l h (at_ + 1 + 1) s2 [0, 1, 40, (-41), (-9223372036854775808)] (by omega) (by simp)
  rw [if_pos c, e2, Option.bind_some, e3, Option.bind_some]
  exact ⟨_, rfl⟩
 ·obtain ⟨x, y, s2, e2⟩ := sure_some l h (at_ + 1) s1 6 (by omega) (by omega)
  rw [if_neg c, e2, Option.bind_some]
  exact ⟨_, rfl⟩
theorem drawH_loop (l : List Int) (h : xw l) (n : Nat) : ∀ (k : Nat) (acc : List S36) (at_ sd : Int), n + 1 ≤ k → acc.length + n ≤ 100 → (0 ≤ at_ ∧ at_ + 2 * (n : Int) ≤ 800) → ∃ r, zj.l0 k acc (n : Int) l at_ sd = some r := by
 induction n with
 | zero =>
  intro k acc at_ sd hk hl ha
  obtain ⟨k, rfl⟩ : ∃ m, k = m + 1 := ⟨k - 1, by omega⟩
  simp only [zj.l0]
  obtain ⟨b, s1, e1⟩ := one_some l h at_ sd 10 (by omega) (by omega)
  rw [if_neg (by omega), e1, Option.bind_some]
  by_cases c : b = true
  ·obtain ⟨r, e2⟩ := peg_some l h (at_ + 1) s1 (by omega)
   rw [if_pos c, e2, Option.bind_some, if_pos (by omega)]
   exact ⟨_, rfl⟩
  ·rw [if_neg c]
   exact ⟨_, rfl⟩
 | succ n ih =>
  intro k acc at_ sd hk hl ha
  obtain ⟨k, rfl⟩ : ∃ m, k = m + 1 := ⟨k - 1, by omega⟩
  simp only [zj.l0]
  obtain ⟨x, y, s1, e1⟩ := sure_some l h at_ sd 3 (by omega) (by omega)
  rw [if_pos (by omega), e1, Option.bind_some, if_pos (by omega), show wrap64 (((n + 1 : Nat) : Int) - 1) = (n : Int) from (w64 (by omega) (by omega)).trans (by omega)]
  exact ih k _ _ _ (by omega) (by simp; omega) (by dsimp only; omega)
theorem drawH_some (l : List Int) (h : xw l) (k : Nat) (hk : 70000 ≤ k) : ∃ r, zj.f k l = some r := by
 unfold zj.f
 obtain ⟨b, s1, e1⟩ := one_some l h 0 0 3 (by omega) (by omega)
 rw [e1, Option.bind_some]
 by_cases c : b = true
 ·obtain ⟨x, s2, e2, x1, x2⟩ := xq l h (0 + 1) s1 3 (by omega) (by omega)
  obtain ⟨y, s3, e3, y1, y2⟩ := xq l h (0 + 1 + 1) s2 3 (by omega) (by omega)
  rw [if_pos c, e2, Option.bind_some, e3, Option.bind_some]
  obtain ⟨X, hX⟩ : ∃ n : Nat, wrap64 (1 + x) = n ∧ n ≤ 3 := ⟨(1 + x).toNat, by rw [w64 (by omega) (by omega)]; omega, by omega⟩
  obtain ⟨Y, hY⟩ : ∃ n : Nat, wrap64 (1 + y) = n ∧ n ≤ 3 := ⟨(1 + y).toNat, by rw [w64 (by omega) (by omega)]; omega, by omega⟩
  have hall : allP (zl Y 0 X) := fun p hp => by
   have := rows_bound Y 0 X 4 (by omega) (by omega) p hp
   unfold pegP
   omega
  have hm : X * Y ≤ 3 * 3 := Nat.mul_le_mul (by omega) (by omega)
  have hlen := jF Y 0 X
  rw [show wrap64 (1 + (x, 0 + 1 + 1, s2).1) = (X : Int) from hX.1, show wrap64 (1 + (y, 0 + 1 + 1 + 1, s3).1) = (Y : Int) from hY.1, ctPegs_eq k X Y (by omega) (by omega) (by omega), Option.bind_some, ctLook_eq k _ hall (by omega) (by omega), Option.bind_some]
  exact ⟨_, rfl⟩
 ·obtain ⟨x, s2, e2, x1, x2⟩ := xq l h (0 + 1) s1 6 (by omega) (by omega)
  rw [if_neg c, e2, Option.bind_some]
  obtain ⟨X, rfl⟩ : ∃ n : Nat, x = n := ⟨x.toNat, by omega⟩
  exact drawH_loop l h X k [] _ _ (by omega) (by simp; omega) (by dsimp only; omega)
theorem drawSq_some (l : List Int) (h : xw l) : ∃ w v, jE.f l = some (w, v) := by
 obtain ⟨w, v, a, s, e, _⟩ := board_some l h 0 0 12 (by omega) (by omega)
 unfold jE.f jI.f
 rw [e]
 exact ⟨_, _, rfl⟩
theorem drawF_some (l : List Int) (h : xw l) : ∃ w v, jD.f l = some (w, v) := by
 obtain ⟨w, v, a, s, e, _⟩ := board_some l h 0 0 4 (by omega) (by omega)
 unfold jD.f jH.f
 rw [e]
 exact ⟨_, _, rfl⟩
theorem drawR_some (l : List Int) (h : xw l) : ∃ w v, jq.f l = some (w, v) := by
 obtain ⟨w, v, a, s, e, a1, a2⟩ := board_some l h 0 0 5 (by omega) (by omega)
 obtain ⟨b, s1, e1⟩ := one_some l h a s 8 (by omega) (by omega)
 unfold jq.f
 rw [e, Option.bind_some, e1, Option.bind_some]
 by_cases c : b = true
 ·obtain ⟨x, s2, e2, _⟩ := xq l h (a + 1) s1 2 (by omega) (by omega)
  rw [if_pos c, e2, Option.bind_some]
  exact ⟨_, _, rfl⟩
 ·rw [if_neg c]
  exact ⟨_, _, rfl⟩
theorem tail_shapes (l : List Int) (hb : xw l) (k : Nat) (hk : 300000000 ≤ k) : ∃ a b x o u c d first o7 list has o11, TailF k l a b x o u c d first o7 list has o11 ∧ (o = true → a = b → x = wrap64 (Int.tdiv (wrap64 ((wrap64 (a * a)) * (wrap64 ((wrap64 (a * a)) - 1)))) 12)) ∧ (o7 = true → MidF k c d first list has o11) := by
 obtain ⟨a, b, e1⟩ := drawSq_some l hb
 obtain ⟨c, d, e2⟩ := drawF_some l hb
 obtain ⟨list, e3⟩ := drawH_some l hb k (by omega)
 obtain ⟨x, o, u, q1, q2, q3, q4, q5⟩ := sq_both a b k (by omega)
 have hh := hasThree_val k hk list
 have hmore : (hasV list).2 = true → (hasV list).1 = true → 2 < (list.length : Int) := fun _ g => has_more list g
 by_cases g : (1 ≤ c ∧ c ≤ 4) ∧ (1 ≤ d ∧ d ≤ 4)
 ·obtain ⟨c, d, rfl, rfl⟩ := fins4 c d g
  obtain ⟨f1, f2, f3, f4⟩ := firstNo_at c d k (by omega)
  obtain ⟨m1, m2⟩ := mid_first c d k hk list (hasV list).1 (hasV list).2 hmore
  exact ⟨a, b, x, o, u, _, _, xG c.val d.val, true, list, (hasV list).1, (hasV list).2, ⟨e1, q1, q2, q3, q4, e2, f2, f1, f4, f3, e3, hh.2, hh.1, m2, hmore⟩, q5, fun _ => m1⟩
 ·have z : zP.f k [] [] = some true := xv (g := fun k => zP.f k [] []) (zP.mono _ _) (show 400 ≤ k by omega) (by decide +kernel : zP.f 400 [] [] = some true)
  refine ⟨a, b, x, o, u, c, d, [], false, list, (hasV list).1, (hasV list).2, ⟨e1, q1, q2, q3, q4, e2, ?_, ?_, ?_, ?_, e3, hh.2, hh.1, z, hmore⟩, q5, fun e => absurd e (by decide)⟩
  ·unfold zI.f
   rw [xn, Option.bind_some, if_neg (by simpa using g)]
  ·unfold zQ.f
   rw [jX, Option.bind_some, if_neg (by simpa using g)]
  ·unfold jc.f zI.f
   rw [xn, Option.bind_some, if_neg (by simpa using g)]
   rfl
  ·unfold jb.f
   rw [jX, Option.bind_some, if_neg (by simpa using g)]
   rfl
theorem shapes_runs (l0 l1 : List Int) (h0 : l0.length ≤ maxLen) (h1 : ∀ x ∈ l0, 0 ≤ x ∧ x ≤ 255) (h2 : l1.length ≤ maxLen) (h3 : ∀ x ∈ l1, 0 ≤ x ∧ x ≤ 255) {A0 : Option Addr} {c0 : Nat} {A1 : Option Addr} {c1 : Nat} {w : World} (hr0 : Kd.C (Kd.int .u8) w A0 l0.length l0) (hc0 : l0.length ≤ c0) (hr1 : Kd.C (Kd.int .u8) w A1 l1.length l1) (hc1 : l1.length ≤ c1) :
  Calls Try.prog 3 #[.slice A0 l0.length c0, .slice A1 l1.length c1] w fun e w' => e = .returned (.bool true) ∧ Below w.heap.size w w' := by
 obtain ⟨k, hk⟩ : ∃ k : Nat, 11000002000 ≤ k := ⟨11000002000, Nat.le_refl _⟩
 have hb0 : xw l0 := ⟨by unfold maxLen at h0; omega, h1⟩
 have hb1 : xw l1 := ⟨by unfold maxLen at h2; omega, h3⟩
 obtain ⟨t, ht⟩ : ∃ t, laws_big.f l0 l1 = some t := by
  unfold laws_big.f
  split
  ·exact ⟨_, rfl⟩
  ·exact ⟨_, rfl⟩
 cases t with
 | true => exact shapes_big ht hr0 hc0 hr1 hc1
 | false =>
  obtain ⟨x, y, e⟩ := drawR_some l0 hb0
  obtain ⟨ta, tb, tx, tq, tu, tc, td, tf, t7, tl, th, t11, G, gsq, gmid⟩ := tail_shapes l1 hb1 k (by omega)
  by_cases c : (1 ≤ x ∧ x ≤ 6) ∧ (1 ≤ y ∧ y ≤ 6)
  ·obtain ⟨a, b, rfl, rfl⟩ := fins6 x y c
   have r := rect_at a b k (by omega)
   have g := right_at a b k (by omega)
   exact shapes_head ⟨e, r.2, r.1, g.2, g.1⟩ ht (fun _ => ok_shape a b k (by omega)) G gsq gmid hr0 hc0 hr1 hc1
  ·obtain ⟨R, _, r2, r3⟩ := rect_both x y
   obtain rfl := r2 c
   obtain ⟨r, _, g2, g3, g4⟩ := right_both x y k (by omega)
   obtain rfl := g2 c
   have r := r3 k (by omega)
   exact shapes_head ⟨e, r.2, r.1, g4, g3⟩ ht (fun e => absurd e (by decide)) G gsq gmid hr0 hc0 hr1 hc1
end Go.Proofs.Ytafnbgclkkjdcaa.Pure