/- The program's CountOnLongest returns what the reference's returns, for all arguments. No condition. -/
import Derived.Test.YtookmifpgclhlaaMOx0
import Derived.Test.YtookmifpgclhlaaMOx1
import Derived.Test.YtookmifpgclhlaaMOx2
import Derived.Test.YtookmifpgclhlaaMOx3
import Derived.Test.YtookmifpgclhlaaMOx4
import Derived.Test.YtookmifpgclhlaaMOx5
import Derived.Test.YtookmifpgclhlaaMOx6
import Derived.Test.YtookmifpgclhlaaV
namespace Go.Proofs.Ytookmifpgclhlaa.Pure
open Go.RowKit Go.Proofs.YtookmifpgclhlaaV Go.Proofs.Ytookmifpgclhlaa.MO Go.Proofs.YtookmifpgclhlaaW.PrintWords Go.Proofs.YtookmifpgclhlaaW.PrintLast Go.Proofs.YtookmifpgclhlaaW.PrintMore

theorem in_eq (a lo hi : Int) : spec_l1In.f a lo hi = some (decide (lo ≤ a ∧ a ≤ hi)) := by
  unfold spec_l1In.f
  by_cases h : lo ≤ a
  · rw [if_pos h]; simp [h]
  · rw [if_neg h]; simp [h]

theorem within_eq (a lo hi : Int) : impl_within.f a lo hi = some (decide (lo ≤ a ∧ a ≤ hi)) := by
  unfold impl_within.f
  by_cases h : lo ≤ a
  · rw [if_pos h]; simp [h]
  · rw [if_neg h]; simp [h]

theorem w64 {x : Int} (h0 : -9223372036854775808 ≤ x) (h1 : x ≤ 9223372036854775807) : wrap64 x = x := by
  unfold wrap64
  omega

theorem ctBoard_eq (w h m : Int) : spec_ctBoard.f w h m = some (decide ((1 ≤ w ∧ w ≤ m) ∧ (1 ≤ h ∧ h ≤ m))) := by
  unfold spec_ctBoard.f
  simp only [in_eq, Option.bind_some]
  by_cases c : 1 ≤ w ∧ w ≤ m
  · simp [c]
  · simp [c]

theorem isBoard_eq (w h m : Int) : impl_isBoard.f w h m = some (decide ((1 ≤ w ∧ w ≤ m) ∧ (1 ≤ h ∧ h ≤ m))) := by
  unfold impl_isBoard.f
  simp only [within_eq, Option.bind_some]
  by_cases c : 1 ≤ w ∧ w ≤ m
  · simp [c]
  · simp [c]

/-- The pegs of a board from column x on, e columns. -/
def rowsFrom (h x e : Nat) : List S30 := (List.range' x e).flatMap fun (x : Nat) => (List.range' 0 h).map fun (y : Nat) => (⟨(x : Int), (y : Int)⟩ : S30)
def colFrom (x y d : Nat) : List S30 := (List.range' y d).map fun (y : Nat) => (⟨(x : Int), (y : Int)⟩ : S30)
theorem colFrom_succ (x y d : Nat) : colFrom x y (d + 1) = (⟨(x : Int), (y : Int)⟩ : S30) :: colFrom x (y + 1) d := by
  simp [colFrom, List.range'_succ]
theorem rowsFrom_succ (h x e : Nat) : rowsFrom h x (e + 1) = colFrom x 0 h ++ rowsFrom h (x + 1) e := by
  simp [rowsFrom, colFrom, List.range'_succ]
theorem rowsFrom_length (h x e : Nat) : (rowsFrom h x e).length = e * h := by
  induction e generalizing x with
  | zero => simp [rowsFrom]
  | succ e ih => rw [rowsFrom_succ, List.length_append, ih, Nat.succ_mul]; simp [colFrom]; omega

theorem board_in (w h : Nat) (hh : h ≤ 100) (x : Nat) (K0 : Nat) (R : List S30) (B : Nat) (hB : B ≤ 100000)
    (hc : ∀ k acc, K0 ≤ k → acc.length ≤ B → impl_board.l0 k (h : Int) acc (w : Int) (wrap64 ((x : Int) + 1)) = some (acc ++ R)) (d : Nat) : ∀ (k y : Nat) (acc : List S30), y + d = h → K0 + d + 1 ≤ k → acc.length + d ≤ B →
    impl_board.l1 k (h : Int) acc (x : Int) (w : Int) (x : Int) (h : Int) (y : Int) = some (acc ++ colFrom x y d ++ R) := by
  induction d with
  | zero =>
    intro k y acc hy hk hl
    obtain ⟨k, rfl⟩ : ∃ m, k = m + 1 := ⟨k - 1, by omega⟩
    simp only [impl_board.l1]
    rw [if_neg (by omega), hc k acc (by omega) (by omega)]
    simp [colFrom]
  | succ d ih =>
    intro k y acc hy hk hl
    obtain ⟨k, rfl⟩ : ∃ m, k = m + 1 := ⟨k - 1, by omega⟩
    simp only [impl_board.l1]
    rw [if_pos (by omega), if_pos (by omega), w64 (by omega) (by omega)]
    have := ih k (y + 1) (acc ++ [⟨(x : Int), (y : Int)⟩]) (by omega) (by omega) (by simp; omega)
    rw [show ((y : Int) + 1) = ((y + 1 : Nat) : Int) by omega, this, colFrom_succ]
    simp
theorem board_loop (w h : Nat) (hw : w ≤ 100) (hh : h ≤ 100) (e : Nat) : ∀ (k x : Nat) (acc : List S30), x + e = w → e * (h + 2) + 1 ≤ k → acc.length + e * h ≤ 20000 →
    impl_board.l0 k (h : Int) acc (w : Int) (x : Int) = some (acc ++ rowsFrom h x e) := by
  induction e with
  | zero =>
    intro k x acc hx hk hl
    obtain ⟨k, rfl⟩ : ∃ m, k = m + 1 := ⟨k - 1, by omega⟩
    simp only [impl_board.l0]
    rw [if_neg (by omega)]
    simp [rowsFrom]
  | succ e ih =>
    intro k x acc hx hk hl
    obtain ⟨k, rfl⟩ : ∃ m, k = m + 1 := ⟨k - 1, by omega⟩
    rw [Nat.succ_mul] at hk hl
    simp only [impl_board.l0]
    rw [if_pos (by omega)]
    have := board_in w h hh x (e * (h + 2) + 1) (rowsFrom h (x + 1) e) (acc.length + h) (by omega) (fun k' acc' hk' hl' => by
      rw [w64 (by omega) (by omega)]
      exact ih k' (x + 1) acc' (by omega) hk' (by omega)) h k 0 acc (by omega) (by omega) (by omega)
    rw [show ((0 : Nat) : Int) = 0 from rfl] at this
    rw [this, rowsFrom_succ, List.append_assoc]
theorem board_eq (k w h : Nat) (hw : w ≤ 100) (hh : h ≤ 100) (hk : 10300 ≤ k) : impl_board.f k (w : Int) (h : Int) = some (rowsFrom h 0 w) := by
  unfold impl_board.f
  have h1 : w * (h + 2) ≤ 100 * 102 := Nat.mul_le_mul hw (by omega)
  have h2 : w * h ≤ 100 * 100 := Nat.mul_le_mul hw hh
  have := board_loop w h hw hh w k 0 [] (by omega) (by omega) (by simp; omega)
  rw [show ((0 : Nat) : Int) = 0 from rfl] at this
  rw [this]
  simp

theorem rows_bound (h x e M : Nat) (hM : x + e ≤ M) (hh : h ≤ M) : ∀ p ∈ rowsFrom h x e, (0 ≤ p.f0 ∧ p.f0 < M) ∧ (0 ≤ p.f1 ∧ p.f1 < M) := by
  intro p hp
  unfold rowsFrom at hp
  rw [List.mem_flatMap] at hp
  obtain ⟨a, ha, hp⟩ := hp
  rw [List.mem_map] at hp
  obtain ⟨b, hb, rfl⟩ := hp
  rw [List.mem_range'_1] at ha hb
  refine ⟨⟨?_, ?_⟩, ⟨?_, ?_⟩⟩ <;> simp <;> omega

theorem isOnBoard_eq (w h x y : Int) (hw : 1 ≤ w ∧ w ≤ 1000) (hh : 1 ≤ h ∧ h ≤ 1000) : impl_isOnBoard.f w h x y = some (decide ((0 ≤ x ∧ x ≤ w - 1) ∧ (0 ≤ y ∧ y ≤ h - 1))) := by
  unfold impl_isOnBoard.f
  rw [w64 (x := w - 1) (by omega) (by omega), w64 (x := h - 1) (by omega) (by omega)]
  simp only [within_eq, Option.bind_some]
  by_cases c : 0 ≤ x ∧ x ≤ w - 1
  · simp [c]
  · simp [c]

/-- A place is one of the board's. -/
def onB (w h x y : Int) : Bool := decide ((0 ≤ x ∧ x ≤ w - 1) ∧ (0 ≤ y ∧ y ≤ h - 1))
/-- How many steps of a way stay on the board, counted up to some number. -/
def runL (w h dx dy : Int) : Nat → Int → Int → Nat
  | 0, _, _ => 0
  | f + 1, x, y => if onB w h x y then runL w h dx dy f (x + dx) (y + dy) + 1 else 0

def visF (w h acc n : Int) : Int := if n = mx w h then wrap64 (acc + 1) else acc
/-- What a line of n pegs adds. -/
def cF (w h n : Nat) : Nat := if n = max w h then 1 else 0
theorem visit_eq (w h n acc : Int) : impl_CountOnLongest_1.f n w h acc = some (visF w h acc n) := by
  unfold impl_CountOnLongest_1.f visF
  split <;> rfl
theorem cF_le (w h n : Nat) (_hn : n ≤ 13) : cF w h n ≤ 300 := by unfold cF; split <;> omega
theorem vis_nat (w h acc n : Nat) (_hn : n ≤ 13) (ha : acc ≤ 1000000000000) : visF w h acc n = ((acc + cF w h n : Nat) : Int) := by
  have e : ((n : Int) = mx w h) ↔ n = max w h := by unfold mx; split <;> omega
  unfold visF cF
  by_cases c : n = max w h
  · rw [if_pos (e.2 c), if_pos c, w64 (by omega) (by omega)]
    rfl
  · rw [if_neg (fun q => c (e.1 q)), if_neg c]
    rfl

/-- What a peg adds: nothing if a line does not begin there. -/
def lineStep (w h dx dy : Int) (acc : Int) (p : S30) : Int :=
  if onB w h (p.f0 - dx) (p.f1 - dy) then acc
  else if runL w h dx dy 12 p.f0 p.f1 > 1 then visF w h acc (runL w h dx dy 12 p.f0 p.f1 : Nat) else acc
theorem straight_l2 (W H : Int) (hW : 1 ≤ W ∧ W ≤ 12) (hH : 1 ≤ H ∧ H ≤ 12) (dx dy : Int) (hdx : 0 ≤ dx ∧ dx ≤ 12) (hdy : -12 ≤ dy ∧ dy ≤ 12) (K0 : Nat) (L B : List S30) (x14 x15 x22 x23 acc : Int) (R : Int) (f : Nat) :
    ∀ (k n : Nat) (x y : Int), ((1 ≤ dx ∧ W - x ≤ f) ∨ (dx = 0 ∧ 1 ≤ dy ∧ H - y ≤ f)) → n + f ≤ 1000 → K0 + f + 10 ≤ k →
    (∀ k', K0 ≤ k' → impl_straight.l1 k' W H L x14 x15 B x22 (wrap64 (x23 + 1)) (if n + runL W H dx dy f x y > 1 then visF W H acc ((n + runL W H dx dy f x y : Nat) : Int) else acc) W H dx dy = some R) →
    impl_straight.l2 k W H (n : Int) L x14 x15 B x22 x23 acc W H dx dy x y = some R := by
  have off : ∀ (k n : Nat) (x y : Int), ¬ ((0 ≤ x ∧ x ≤ W - 1) ∧ (0 ≤ y ∧ y ≤ H - 1)) → K0 + 8 ≤ k → (∀ k', K0 ≤ k' → impl_straight.l1 k' W H L x14 x15 B x22 (wrap64 (x23 + 1)) (if n > 1 then visF W H acc (n : Int) else acc) W H dx dy = some R) →
      impl_straight.l2 k W H (n : Int) L x14 x15 B x22 x23 acc W H dx dy x y = some R := by
    intro k n x y hoff hk hc
    obtain ⟨k, rfl⟩ : ∃ m, k = m + 1 := ⟨k - 1, by omega⟩
    rw [impl_straight.l2, isOnBoard_eq W H x y (by omega) (by omega), Option.bind_some, decide_eq_false hoff, if_neg (by decide)]
    have h1 := hc k (by omega)
    by_cases g : n > 1
    · rw [if_pos g] at h1
      rw [if_pos (show (n : Int) > 1 by omega)]
      first
      | (rw [visit_eq W H _ _ _ (by omega), Option.bind_some]; exact h1)
      | (rw [visit_eq W H, Option.bind_some]; exact h1)
    · rw [if_neg g] at h1
      rw [if_neg (show ¬ (n : Int) > 1 by omega)]
      exact h1
  induction f with
  | zero =>
    intro k n x y hf hn hk hc
    exact off k n x y (by omega) (by omega) (fun k' h => by simpa [runL] using hc k' h)
  | succ f ih =>
    intro k n x y hf hn hk hc
    by_cases c : (0 ≤ x ∧ x ≤ W - 1) ∧ (0 ≤ y ∧ y ≤ H - 1)
    · obtain ⟨k, rfl⟩ : ∃ m, k = m + 1 := ⟨k - 1, by omega⟩
      have hr : runL W H dx dy (f + 1) x y = runL W H dx dy f (x + dx) (y + dy) + 1 := by
        rw [runL, if_pos]
        unfold onB
        exact decide_eq_true c
      rw [hr] at hc
      rw [impl_straight.l2, isOnBoard_eq W H x y (by omega) (by omega), Option.bind_some, decide_eq_true c, if_pos rfl]
      unfold impl_Peg_plus.f
      rw [Option.bind_some, w64 (x := x + dx) (by omega) (by omega), w64 (x := y + dy) (by omega) (by omega), w64 (x := (n : Int) + 1) (by omega) (by omega)]
      have := ih k (n + 1) (x + dx) (y + dy) (by omega) (by omega) (by omega) (fun k' h => by
        have := hc k' h
        rw [show n + (runL W H dx dy f (x + dx) (y + dy) + 1) = n + 1 + runL W H dx dy f (x + dx) (y + dy) by omega] at this
        exact this)
      exact this
    · have hr : runL W H dx dy (f + 1) x y = 0 := by
        rw [runL, if_neg]
        unfold onB
        rw [decide_eq_false c]
        decide
      rw [hr] at hc
      exact off k n x y c (by omega) hc
theorem straight_l1 (W H : Int) (hW : 1 ≤ W ∧ W ≤ 12) (hH : 1 ≤ H ∧ H ≤ 12) (dx dy : Int) (hdx : 0 ≤ dx ∧ dx ≤ 12) (hdy : -12 ≤ dy ∧ dy ≤ 12) (hd : 1 ≤ dx ∨ (dx = 0 ∧ 1 ≤ dy)) (K0 : Nat) (L B : List S30) (hB : B.length ≤ 1000) (hb : ∀ p ∈ B, (0 ≤ p.f0 ∧ p.f0 < 12) ∧ (0 ≤ p.f1 ∧ p.f1 < 12)) (x14 x15 : Int) (R : Int) (d : Nat) :
    ∀ (k i : Nat) (acc : Int), i + d = B.length → K0 + d * 30 + 1 ≤ k →
    (∀ k', K0 ≤ k' → impl_straight.l0 k' W H L x14 (wrap64 (x15 + 1)) ((B.drop i).foldl (lineStep W H dx dy) acc) W H = some R) →
    impl_straight.l1 k W H L x14 x15 B (B.length : Int) (i : Int) acc W H dx dy = some R := by
  induction d with
  | zero =>
    intro k i acc hi hk hc
    obtain ⟨k, rfl⟩ : ∃ m, k = m + 1 := ⟨k - 1, by omega⟩
    have h1 := hc k (by omega)
    rw [List.drop_of_length_le (by omega), List.foldl_nil] at h1
    rw [impl_straight.l1, if_neg (by omega)]
    exact h1
  | succ d ih =>
    intro k i acc hi hk hc
    obtain ⟨k, rfl⟩ : ∃ m, k = m + 1 := ⟨k - 1, by omega⟩
    have hlt : i < B.length := by omega
    have hr : rd_T30 B (i : Int) = B[i] := by
      unfold rd_T30
      simp [List.getD_eq_getElem?_getD, List.getElem?_eq_getElem hlt]
    obtain ⟨hp0, hp1⟩ := hb B[i] (List.getElem_mem hlt)
    rw [List.drop_eq_getElem_cons hlt, List.foldl_cons] at hc
    rw [impl_straight.l1, if_pos (by omega), if_pos (by omega), if_pos (by omega), hr]
    unfold impl_Peg_less.f
    rw [Option.bind_some, w64 (x := B[i].f0 - dx) (by omega) (by omega), w64 (x := B[i].f1 - dy) (by omega) (by omega), isOnBoard_eq W H _ _ (by omega) (by omega), Option.bind_some]
    have hs : lineStep W H dx dy acc B[i] = if onB W H (B[i].f0 - dx) (B[i].f1 - dy) then acc else if runL W H dx dy 12 B[i].f0 B[i].f1 > 1 then visF W H acc (runL W H dx dy 12 B[i].f0 B[i].f1 : Nat) else acc := rfl
    rw [hs] at hc
    unfold onB at hc
    by_cases c : (0 ≤ B[i].f0 - dx ∧ B[i].f0 - dx ≤ W - 1) ∧ (0 ≤ B[i].f1 - dy ∧ B[i].f1 - dy ≤ H - 1)
    · rw [decide_eq_true c, if_pos rfl] at hc
      rw [decide_eq_true c, if_pos rfl, w64 (x := (i : Int) + 1) (by omega) (by omega)]
      exact ih k (i + 1) acc (by omega) (by omega) hc
    · rw [decide_eq_false c, if_neg (by decide)] at hc
      rw [decide_eq_false c, if_neg (by decide)]
      refine straight_l2 W H hW hH dx dy hdx hdy (K0 + d * 30 + 1) L B x14 x15 _ _ acc R 12 k 0 _ _ (by omega) (by omega) (by omega) fun k' hk' => ?_
      rw [Nat.zero_add, w64 (x := (i : Int) + 1) (by omega) (by omega)]
      exact ih k' (i + 1) _ (by omega) (by omega) hc
/-- What all lines of some slopes come to. -/
def straightL (w h : Nat) (L : List S30) (acc : Int) : Int := L.foldl (fun a s => (rowsFrom h 0 w).foldl (lineStep (w : Int) (h : Int) s.f0 s.f1) a) acc
theorem straight_l0 (w h : Nat) (hw : 1 ≤ w ∧ w ≤ 12) (hh : 1 ≤ h ∧ h ≤ 12) (L : List S30) (hL : L.length ≤ 1000) (hs : ∀ s ∈ L, (0 ≤ s.f0 ∧ s.f0 ≤ 12) ∧ (-12 ≤ s.f1 ∧ s.f1 ≤ 12) ∧ (1 ≤ s.f0 ∨ (s.f0 = 0 ∧ 1 ≤ s.f1))) (d : Nat) :
    ∀ (k i : Nat) (acc : Int), i + d = L.length → d * 20000 + 20000 ≤ k →
    impl_straight.l0 k (w : Int) (h : Int) L (L.length : Int) (i : Int) acc (w : Int) (h : Int) = some (straightL w h (L.drop i) acc) := by
  have hlen := rowsFrom_length h 0 w
  have hm : w * h ≤ 12 * 12 := Nat.mul_le_mul (by omega) (by omega)
  induction d with
  | zero =>
    intro k i acc hi hk
    obtain ⟨k, rfl⟩ : ∃ m, k = m + 1 := ⟨k - 1, by omega⟩
    rw [impl_straight.l0, if_neg (by omega), List.drop_of_length_le (by omega)]
    rfl
  | succ d ih =>
    intro k i acc hi hk
    obtain ⟨k, rfl⟩ : ∃ m, k = m + 1 := ⟨k - 1, by omega⟩
    have hlt : i < L.length := by omega
    have hr : rd_T30 L (i : Int) = L[i] := by
      unfold rd_T30
      simp [List.getD_eq_getElem?_getD, List.getElem?_eq_getElem hlt]
    obtain ⟨h0, h1, h2⟩ := hs L[i] (List.getElem_mem hlt)
    rw [impl_straight.l0, if_pos (by omega), if_pos (by omega), if_pos (by omega), hr, board_eq k w h (by omega) (by omega) (by omega), Option.bind_some, List.drop_eq_getElem_cons hlt]
    refine straight_l1 w h (by omega) (by omega) L[i].f0 L[i].f1 h0 h1 h2 (d * 20000 + 20000) L (rowsFrom h 0 w) (by omega) (fun p hp => ?_) _ _ _ (rowsFrom h 0 w).length k 0 acc (by omega) (by omega) fun k' hk' => ?_
    · have := rows_bound h 0 w 12 (by omega) (by omega) p hp
      omega
    · rw [w64 (x := (i : Int) + 1) (by omega) (by omega), List.drop_zero]
      have := ih k' (i + 1) ((rowsFrom h 0 w).foldl (lineStep (w : Int) (h : Int) L[i].f0 L[i].f1) acc) (by omega) hk'
      exact this

def lineC (w h : Nat) (dx dy : Int) (p : S30) : Nat :=
  if onB w h (p.f0 - dx) (p.f1 - dy) then 0
  else if runL w h dx dy 12 p.f0 p.f1 > 1 then cF w h (runL w h dx dy 12 p.f0 p.f1) else 0
theorem runL_le (w h dx dy : Int) (f : Nat) : ∀ x y, runL w h dx dy f x y ≤ f := by
  induction f with
  | zero => intro x y; exact Nat.le_refl _
  | succ f ih =>
    intro x y
    rw [runL]
    split
    · have := ih (x + dx) (y + dy)
      omega
    · omega
theorem lineC_le (w h : Nat) (dx dy : Int) (p : S30) : lineC w h dx dy p ≤ 300 := by
  unfold lineC
  split
  · omega
  · split
    · exact cF_le _ _ _ (Nat.le_trans (runL_le _ _ _ _ _ _ _) (by omega))
    · omega
theorem lineStep_nat (w h : Nat) (dx dy : Int) (acc : Nat) (p : S30) (ha : acc ≤ 1000000000000) : lineStep w h dx dy (acc : Int) p = ((acc + lineC w h dx dy p : Nat) : Int) := by
  unfold lineStep lineC
  by_cases c : onB w h (p.f0 - dx) (p.f1 - dy) = true
  · rw [if_pos c, if_pos c]; rfl
  · rw [if_neg c, if_neg c]
    by_cases g : runL w h dx dy 12 p.f0 p.f1 > 1
    · rw [if_pos g, if_pos g]
      exact vis_nat _ _ _ _ (Nat.le_trans (runL_le _ _ _ _ _ _ _) (by omega)) ha
    · rw [if_neg g, if_neg g]; rfl
def sumC (F : S30 → Nat) : List S30 → Nat
  | [] => 0
  | p :: l => F p + sumC F l
theorem sumC_append (F : S30 → Nat) (a b : List S30) : sumC F (a ++ b) = sumC F a + sumC F b := by
  induction a with
  | nil => simp [sumC]
  | cons p l ih => simp only [List.cons_append, sumC, ih]; omega
theorem sumC_le (F : S30 → Nat) (M : Nat) (l : List S30) (h : ∀ p ∈ l, F p ≤ M) : sumC F l ≤ l.length * M := by
  induction l with
  | nil => simp [sumC]
  | cons p l ih =>
    have h1 := ih fun q hq => h q (by simp [hq])
    have h2 := h p (by simp)
    rw [sumC, List.length_cons, Nat.succ_mul]
    omega
theorem line_fold (w h : Nat) (dx dy : Int) (B : List S30) : ∀ acc : Nat, acc + B.length * 300 ≤ 1000000000000 → B.foldl (lineStep w h dx dy) (acc : Int) = ((acc + sumC (lineC w h dx dy) B : Nat) : Int) := by
  induction B with
  | nil => intro acc _; rfl
  | cons p l ih =>
    intro acc ha
    rw [List.length_cons, Nat.succ_mul] at ha
    have := lineC_le w h dx dy p
    rw [List.foldl_cons, lineStep_nat w h dx dy acc p (by omega), ih _ (by omega), sumC, Nat.add_assoc]
theorem room_left (A Ln Sm l' : Nat) (h1 : A + (l' * 1000000 + 1000000) ≤ 1000000000000) (h2 : Ln * 300 ≤ 43200) (h3 : Sm ≤ Ln * 300) : A + Ln * 300 ≤ 1000000000000 ∧ A + Sm + l' * 1000000 ≤ 1000000000000 := by omega
theorem straight_sum (w h : Nat) (hm : w * h ≤ 144) (L : List S30) : ∀ acc : Nat, acc + L.length * 1000000 ≤ 1000000000000 → straightL w h L (acc : Int) = ((acc + sumC (fun s => sumC (lineC w h s.f0 s.f1) (rowsFrom h 0 w)) L : Nat) : Int) := by
  induction L with
  | nil => intro acc _; rfl
  | cons s l ih =>
    intro acc ha
    rw [List.length_cons, Nat.succ_mul] at ha
    have hlen := rowsFrom_length h 0 w
    have h1 := sumC_le (lineC w h s.f0 s.f1) 300 (rowsFrom h 0 w) (fun p _ => lineC_le _ _ _ _ _)
    have h2 : (rowsFrom h 0 w).length * 300 ≤ 43200 := Nat.mul_le_mul_right 300 (show (rowsFrom h 0 w).length ≤ 144 by rw [hlen]; exact hm)
    obtain ⟨h4, h5⟩ := room_left acc _ _ _ ha h2 h1
    have h3 : straightL w h (s :: l) (acc : Int) = straightL w h l ((rowsFrom h 0 w).foldl (lineStep (w : Int) (h : Int) s.f0 s.f1) (acc : Int)) := rfl
    rw [h3, line_fold w h s.f0 s.f1 (rowsFrom h 0 w) acc h4, ih _ h5, sumC, Nat.add_assoc]

/-- A sum of some numbers from x on. -/
def sumR (F : Nat → Nat) : Nat → Nat → Nat
  | _, 0 => 0
  | x, e + 1 => Nat.add (F x) (sumR F (x + 1) e)
theorem sumR_ext (F G : Nat → Nat) (e : Nat) : ∀ x, (∀ j, x ≤ j → j < x + e → F j = G j) → sumR F x e = sumR G x e := by
  induction e with
  | zero => intro x _; rfl
  | succ e ih => intro x h; rw [sumR, sumR, h x (by omega) (by omega), ih (x + 1) fun j h1 h2 => h j (by omega) (by omega)]
theorem sumR_last (F : Nat → Nat) (e : Nat) : ∀ x, sumR F x (e + 1) = sumR F x e + F (x + e) := by
  induction e with
  | zero => intro x; show F x + 0 = 0 + F (x + 0); simp
  | succ e ih => intro x; rw [sumR, ih (x + 1), sumR]; show F x + _ = F x + _ + _; rw [show x + 1 + e = x + (e + 1) by omega]; omega
theorem sumR_shift (F : Nat → Nat) (e : Nat) : ∀ x, sumR F (x + 1) e = sumR (fun j => F (j + 1)) x e := by
  induction e with
  | zero => intro x; rfl
  | succ e ih => intro x; rw [sumR, sumR, ih (x + 1)]
theorem sumR_turn (F : Nat → Nat) (e : Nat) : sumR (fun j => F (e - 1 - j)) 0 e = sumR F 0 e := by
  induction e with
  | zero => rfl
  | succ e ih =>
    rw [sumR_last F e 0, ← ih, sumR, sumR_shift]
    show F (e + 1 - 1 - 0) + _ = _ + F (0 + e)
    rw [Nat.zero_add, Nat.add_comm]
    congr 1
    exact sumR_ext _ _ e 0 fun j _ hj => by
      show F (e + 1 - 1 - (j + 1)) = F (e - 1 - j)
      congr 1
      omega
theorem sumC_col (F : S30 → Nat) (x : Nat) (d : Nat) : ∀ y, sumC F (colFrom x y d) = sumR (fun j => F ⟨(x : Int), (j : Int)⟩) y d := by
  induction d with
  | zero => intro y; rfl
  | succ d ih => intro y; rw [colFrom_succ, sumC, ih, sumR]; rfl
theorem sumC_rows (F : S30 → Nat) (h : Nat) (e : Nat) : ∀ x, sumC F (rowsFrom h x e) = sumR (fun i => sumR (fun j => F ⟨(i : Int), (j : Int)⟩) 0 h) x e := by
  induction e with
  | zero => intro x; rfl
  | succ e ih => intro x; rw [rowsFrom_succ, sumC_append, sumC_col, ih, sumR]; rfl
def runN (w h dx e : Nat) : Nat → Nat → Nat → Nat
  | 0, _, _ => 0
  | f + 1, x, y => if Nat.blt x w && Nat.blt y h then runN w h dx e f (Nat.add x dx) (Nat.add y e) + 1 else 0
def cellN (w h dx e x y : Nat) : Nat :=
  if Nat.blt x dx || Nat.blt y e then (if Nat.ble 2 (runN w h dx e 12 x y) then cF w h (runN w h dx e 12 x y) else 0) else 0
def slopeN (w h dx e : Nat) : Nat := sumR (fun x => sumR (fun y => cellN w h dx e x y) 0 (Nat.sub h e)) 0 (Nat.sub w dx)
theorem sumR_zero (F : Nat → Nat) (m d : Nat) (hz : ∀ j, m ≤ j → j < m + d → F j = 0) : sumR F 0 (m + d) = sumR F 0 m := by
  induction d with
  | zero => rfl
  | succ d ih => rw [← Nat.add_assoc, sumR_last, ih fun j h1 h2 => hz j h1 (by omega), hz (0 + (m + d)) (by omega) (by omega)]; rfl
theorem sumR_cut (F : Nat → Nat) (n m : Nat) (hm : m ≤ n) (hz : ∀ j, m ≤ j → j < n → F j = 0) : sumR F 0 n = sumR F 0 m := by
  obtain ⟨d, rfl⟩ : ∃ d, n = m + d := ⟨n - m, by omega⟩
  exact sumR_zero F m d hz
theorem sumR_none (F : Nat → Nat) (e : Nat) (x : Nat) (hz : ∀ j, F j = 0) : sumR F x e = 0 := by
  induction e generalizing x with
  | zero => rfl
  | succ e ih => rw [sumR, hz, ih]
theorem cell_out (w h dx e x y : Nat) (ho : w ≤ x + dx ∨ h ≤ y + e) : cellN w h dx e x y = 0 := by
  have h1 : runN w h dx e 12 x y ≤ 1 := by
    rw [runN]
    split
    · rw [runN, if_neg]
      · omega
      · simp only [Bool.and_eq_true, Nat.blt_eq]
        rintro ⟨e1, e2⟩
        have e1' : x + dx < w := e1
        have e2' : y + e < h := e2
        omega
    · omega
  unfold cellN
  rw [if_neg (show ¬ Nat.ble 2 _ = true by rw [Nat.ble_eq]; omega), ite_self]
theorem slopeN_all (w h dx e : Nat) : sumR (fun x => sumR (fun y => cellN w h dx e x y) 0 h) 0 w = slopeN w h dx e := by
  unfold slopeN
  rw [sumR_cut _ w (Nat.sub w dx) (Nat.sub_le _ _) fun x h1 _ => sumR_none _ _ _ fun y => cell_out w h dx e x y (.inl (by have h2 : w - dx ≤ x := h1; omega))]
  refine sumR_ext _ _ _ 0 fun x _ _ => ?_
  exact sumR_cut _ h (Nat.sub h e) (Nat.sub_le _ _) fun y h1 _ => cell_out w h dx e x y (.inr (by have h2 : h - e ≤ y := h1; omega))
theorem run_up (w h dx e : Nat) (f : Nat) : ∀ x y : Nat, runL w h dx e f x y = runN w h dx e f x y := by
  induction f with
  | zero => intro x y; rfl
  | succ f ih =>
    intro x y
    rw [runL, runN]
    by_cases c : x < w ∧ y < h
    · rw [if_pos (by unfold onB; rw [decide_eq_true_eq]; omega), if_pos (by simp [Nat.blt_eq, c])]
      have := ih (x + dx) (y + e)
      rw [Int.natCast_add, Int.natCast_add] at this
      rw [this]
      rfl
    · rw [if_neg (by unfold onB; rw [decide_eq_true_eq]; omega), if_neg (by simp only [Bool.and_eq_true, Nat.blt_eq]; exact c)]
theorem run_down (w h dx e : Nat) (f : Nat) : ∀ x y : Nat, runL w h dx (-(e : Int)) f x ((h : Int) - 1 - y) = runN w h dx e f x y := by
  induction f with
  | zero => intro x y; rfl
  | succ f ih =>
    intro x y
    rw [runL, runN]
    by_cases c : x < w ∧ y < h
    · rw [if_pos (by unfold onB; rw [decide_eq_true_eq]; omega), if_pos (by simp [Nat.blt_eq, c])]
      have := ih (x + dx) (y + e)
      rw [Int.natCast_add, show (h : Int) - 1 - ((y + e : Nat) : Int) = (h : Int) - 1 - y + -(e : Int) by omega] at this
      rw [this]
      rfl
    · rw [if_neg (by unfold onB; rw [decide_eq_true_eq]; omega), if_neg (by simp only [Bool.and_eq_true, Nat.blt_eq]; exact c)]
theorem cell_same (w h a b : Nat) (r n : Nat) (x y : Nat) (O : Bool) (hO : O = true ↔ ¬ (x < a ∨ y < b)) (hr : r = n) : (if O = true then 0 else if r > 1 then cF w h r else 0) = (if (Nat.blt x a || Nat.blt y b) = true then (if Nat.ble 2 n = true then cF w h n else 0) else 0) := by
  subst hr
  have e1 : ((Nat.blt x a || Nat.blt y b) = true) ↔ (x < a ∨ y < b) := by rw [Bool.or_eq_true, Nat.blt_eq, Nat.blt_eq]
  have e2 : (Nat.ble 2 r = true) ↔ r > 1 := by rw [Nat.ble_eq]; omega
  by_cases c : x < a ∨ y < b
  · have n1 : ¬ O = true := fun e => hO.1 e c
    by_cases g : r > 1
    · simp only [n1, e1.2 c, e2.2 g, g, if_true, if_false, Bool.false_eq_true]
    · simp only [n1, e1.2 c, g, show ¬ Nat.ble 2 r = true from fun q => g (e2.1 q), if_true, if_false, Bool.false_eq_true]
  · have n2 : ¬ (Nat.blt x a || Nat.blt y b) = true := fun e => c (e1.1 e)
    simp only [hO.2 c, n2, if_true, if_false, Bool.false_eq_true]
theorem slope_eq (w h : Nat) (dx dy : Int) (hdx : 0 ≤ dx) : sumC (lineC w h dx dy) (rowsFrom h 0 w) = slopeN w h dx.toNat dy.natAbs := by
  rw [sumC_rows, ← slopeN_all]
  obtain ⟨a, rfl⟩ : ∃ a : Nat, dx = a := ⟨dx.toNat, by omega⟩
  refine sumR_ext _ _ w 0 fun x _ hx => ?_
  rw [show (a : Int).toNat = a from rfl]
  by_cases s : 0 ≤ dy
  · obtain ⟨b, rfl⟩ : ∃ b : Nat, dy = b := ⟨dy.toNat, by omega⟩
    rw [show (b : Int).natAbs = b from rfl]
    refine sumR_ext _ _ h 0 fun y _ hy => ?_
    unfold lineC cellN
    exact cell_same w h a b _ _ x y _ (by unfold onB; rw [decide_eq_true_eq]; show (_ ∧ _) ∧ (_ ∧ _) ↔ _; dsimp only; omega) (run_up w h a b 12 x y)
  · obtain ⟨b, rfl⟩ : ∃ b : Nat, dy = -(b : Int) := ⟨dy.natAbs, by omega⟩
    rw [show (-(b : Int)).natAbs = b by omega]
    rw [← sumR_turn (fun y => cellN w h a b x y) h]
    refine sumR_ext _ _ h 0 fun y _ hy => ?_
    unfold lineC cellN
    have := run_down w h a b 12 x (h - 1 - y)
    rw [show (h : Int) - 1 - ((h - 1 - y : Nat) : Int) = y by omega] at this
    exact cell_same w h a b _ _ x (h - 1 - y) _ (by unfold onB; rw [decide_eq_true_eq]; dsimp only; omega) this

/-- A list of slopes that lines may be gone along. -/
def slopesGood (o : Option (List S30)) : Bool :=
  match o with
  | none => false
  | some L => decide (L.length ≤ 1000) && L.all fun s => decide ((0 ≤ s.f0 ∧ s.f0 ≤ 12) ∧ (-12 ≤ s.f1 ∧ s.f1 ≤ 12) ∧ (1 ≤ s.f0 ∨ (s.f0 = 0 ∧ 1 ≤ s.f1)))
theorem slopes_ok : ∀ a b : Fin 12, slopesGood (impl_slopes.f 400 ((a.val : Int) + 1) ((b.val : Int) + 1)) = true := by decide +kernel
/-- The sum over all slopes of a list. -/
def totalN (w h : Nat) : List S30 → Nat
  | [] => 0
  | s :: l => Nat.add (slopeN w h s.f0.toNat s.f1.natAbs) (totalN w h l)
theorem total_eq (w h : Nat) (L : List S30) (hs : ∀ s ∈ L, 0 ≤ s.f0) : sumC (fun s => sumC (lineC w h s.f0 s.f1) (rowsFrom h 0 w)) L = totalN w h L := by
  induction L with
  | nil => rfl
  | cons s l ih => rw [sumC, totalN, slope_eq w h s.f0 s.f1 (hs s (by simp)), ih fun q hq => hs q (by simp [hq])]; rfl
def totalB (a b : Nat) : Nat := totalN (a + 1) (b + 1) ((impl_slopes.f 400 ((a : Int) + 1) ((b : Int) + 1)).getD [])
theorem straight_eq (k : Nat) (a b : Fin 12) (hk : 21000000 ≤ k) : impl_straight.f k ((a.val : Int) + 1) ((b.val : Int) + 1) 0 ((a.val : Int) + 1) ((b.val : Int) + 1) = some ((totalB a.val b.val : Nat) : Int) := by
  have h := slopes_ok a b
  cases hL : impl_slopes.f 400 ((a.val : Int) + 1) ((b.val : Int) + 1) with
  | none => rw [hL] at h; exact absurd h (by decide)
  | some L =>
    rw [hL] at h
    unfold slopesGood at h
    simp only [Bool.and_eq_true, decide_eq_true_eq, List.all_eq_true] at h
    unfold impl_straight.f totalB
    rw [at_rounds (g := fun k => impl_slopes.f k _ _) (impl_slopes.mono _ _) (show 400 ≤ k by omega) hL]
    rw [hL, Option.bind_some, Option.getD_some]
    have h1 := straight_l0 (a.val + 1) (b.val + 1) (by omega) (by omega) L h.1 h.2 L.length k 0 0 (by omega) (by omega)
    rw [List.drop_zero] at h1
    have hm : (a.val + 1) * (b.val + 1) ≤ 12 * 12 := Nat.mul_le_mul (by omega) (by omega)
    have h2 := straight_sum (a.val + 1) (b.val + 1) (by omega) L 0 (by omega)
    rw [Nat.zero_add, total_eq _ _ L fun s hs => (h.2 s hs).1.1] at h2
    exact h1.trans (congrArg some h2)

theorem same_ends (a b : Int × Bool) (h : a = b) : (if b.1 = a.1 then (if (b.2 != a.2) = true then some false else some true) else some false) = some true := by
  subst h
  simp

/-- Numbers of a board as small ones. -/
theorem fins (w h : Int) (c : (1 ≤ w ∧ w ≤ 12) ∧ (1 ≤ h ∧ h ≤ 12)) : ∃ a b : Fin 12, w = (a.val : Int) + 1 ∧ h = (b.val : Int) + 1 :=
  ⟨⟨(w - 1).toNat, by omega⟩, ⟨(h - 1).toNat, by omega⟩, by show w = (((w - 1).toNat : Nat) : Int) + 1; omega, by show h = (((h - 1).toNat : Nat) : Int) + 1; omega⟩

/-- The one pure statement of the law FnExactCountOnLongest. -/
def FnExactCountOnLongest.Pure : Prop :=
  ∀ (a0 : Int) (a1 : Int), I64 a0 → I64 a1 → ∃ k, laws_FnExactCountOnLongest.f k a0 a1 = some true

theorem inside_longest : ∀ a b : Fin 12, spec_CountOnLongest.f 400 ((a.val : Int) + 1) ((b.val : Int) + 1) = some (((totalB a.val b.val : Nat) : Int), true) := by decide +kernel
theorem FnExactCountOnLongest : FnExactCountOnLongest.Pure := by
  intro w h _ _
  obtain ⟨k, hk⟩ : ∃ k : Nat, 21000000 ≤ k := ⟨21000000, Nat.le_refl _⟩
  refine ⟨k, ?_⟩
  unfold laws_FnExactCountOnLongest.f
  by_cases c : (1 ≤ w ∧ w ≤ 12) ∧ (1 ≤ h ∧ h ≤ 12)
  · obtain ⟨a, b, rfl, rfl⟩ := fins w h c
    rw [at_rounds (g := fun k => spec_CountOnLongest.f k _ _) (spec_CountOnLongest.mono _ _) (show 400 ≤ k by omega) (inside_longest a b)]
    unfold impl_CountOnLongest.f
    rw [isBoard_eq, Option.bind_some, Option.bind_some, decide_eq_true c, if_pos rfl, straight_eq k a b hk]
    rw [Option.bind_some, Option.bind_some]
    exact same_ends _ _ rfl
  · unfold spec_CountOnLongest.f impl_CountOnLongest.f
    rw [ctBoard_eq, isBoard_eq, Option.bind_some, Option.bind_some, decide_eq_false c, if_neg (by decide), if_neg (by decide), Option.bind_some, Option.bind_some]
    exact same_ends _ _ rfl

end Go.Proofs.Ytookmifpgclhlaa.Pure
