/- The program's CountRectangles returns what the reference's returns, for all arguments. No condition. -/
import Derived.Test.YtookmifpgclhlaaMRx0
import Derived.Test.YtookmifpgclhlaaMRx2
import Derived.Test.YtookmifpgclhlaaMRx3
import Derived.Test.YtookmifpgclhlaaMRx4
import Derived.Test.YtookmifpgclhlaaMRx5
import Derived.Test.YtookmifpgclhlaaMRx6
import Derived.Test.YtookmifpgclhlaaV
namespace Go.Proofs.Ytookmifpgclhlaa.Pure
open Go.RowKit Go.Proofs.YtookmifpgclhlaaV Go.Proofs.Ytookmifpgclhlaa.MR Go.Proofs.YtookmifpgclhlaaW.PrintWords Go.Proofs.YtookmifpgclhlaaW.PrintLast Go.Proofs.YtookmifpgclhlaaW.PrintMore

theorem in_eq (a lo hi : Int) : spec_l1In.f a lo hi = some (decide (lo ≤ a ∧ a ≤ hi)) := by
  unfold spec_l1In.f
  by_cases h : lo ≤ a
  · rw [if_pos h]; simp [h]
  · rw [if_neg h]; simp [h]

theorem within_eq (a lo hi : Int) : impl_within.f a lo hi = some (decide (lo ≤ a ∧ a ≤ hi)) := by
  unfold impl_within.f
  by_cases h : lo ≤ a
  · rw [if_pos h]; simp [h]
  · rw [if_neg h]; simp [h]

theorem w64 {x : Int} (h0 : -9223372036854775808 ≤ x) (h1 : x ≤ 9223372036854775807) : wrap64 x = x := by
  unfold wrap64
  omega

theorem ctBoard_eq (w h m : Int) : spec_ctBoard.f w h m = some (decide ((1 ≤ w ∧ w ≤ m) ∧ (1 ≤ h ∧ h ≤ m))) := by
  unfold spec_ctBoard.f
  simp only [in_eq, Option.bind_some]
  by_cases c : 1 ≤ w ∧ w ≤ m
  · simp [c]
  · simp [c]

theorem isBoard_eq (w h m : Int) : impl_isBoard.f w h m = some (decide ((1 ≤ w ∧ w ≤ m) ∧ (1 ≤ h ∧ h ≤ m))) := by
  unfold impl_isBoard.f
  simp only [within_eq, Option.bind_some]
  by_cases c : 1 ≤ w ∧ w ≤ m
  · simp [c]
  · simp [c]

/-- The pegs of a board from column x on, e columns. -/
def rowsFrom (h x e : Nat) : List S30 := (List.range' x e).flatMap fun (x : Nat) => (List.range' 0 h).map fun (y : Nat) => (⟨(x : Int), (y : Int)⟩ : S30)
def colFrom (x y d : Nat) : List S30 := (List.range' y d).map fun (y : Nat) => (⟨(x : Int), (y : Int)⟩ : S30)
theorem colFrom_succ (x y d : Nat) : colFrom x y (d + 1) = (⟨(x : Int), (y : Int)⟩ : S30) :: colFrom x (y + 1) d := by
  simp [colFrom, List.range'_succ]
theorem rowsFrom_succ (h x e : Nat) : rowsFrom h x (e + 1) = colFrom x 0 h ++ rowsFrom h (x + 1) e := by
  simp [rowsFrom, colFrom, List.range'_succ]
theorem rowsFrom_length (h x e : Nat) : (rowsFrom h x e).length = e * h := by
  induction e generalizing x with
  | zero => simp [rowsFrom]
  | succ e ih => rw [rowsFrom_succ, List.length_append, ih, Nat.succ_mul]; simp [colFrom]; omega

theorem ctPegs_in (w h : Nat) (hh : h ≤ 100) (x : Nat) (K0 : Nat) (R : List S30) (B : Nat) (hB : B ≤ 100000)
    (hc : ∀ k acc, K0 ≤ k → acc.length ≤ B → spec_ctPegs.l0 k (w : Int) (h : Int) acc (wrap64 ((x : Int) + 1)) = some (acc ++ R)) (d : Nat) : ∀ (k y : Nat) (acc : List S30), y + d = h → K0 + d + 1 ≤ k → acc.length + d ≤ B →
    spec_ctPegs.l1 k (w : Int) (h : Int) acc (x : Int) (y : Int) = some (acc ++ colFrom x y d ++ R) := by
  induction d with
  | zero =>
    intro k y acc hy hk hl
    obtain ⟨k, rfl⟩ : ∃ m, k = m + 1 := ⟨k - 1, by omega⟩
    simp only [spec_ctPegs.l1]
    rw [if_neg (by omega), hc k acc (by omega) (by omega)]
    simp [colFrom]
  | succ d ih =>
    intro k y acc hy hk hl
    obtain ⟨k, rfl⟩ : ∃ m, k = m + 1 := ⟨k - 1, by omega⟩
    simp only [spec_ctPegs.l1]
    rw [if_pos (by omega), if_pos (by omega), w64 (by omega) (by omega)]
    have := ih k (y + 1) (acc ++ [⟨(x : Int), (y : Int)⟩]) (by omega) (by omega) (by simp; omega)
    rw [show ((y : Int) + 1) = ((y + 1 : Nat) : Int) by omega, this, colFrom_succ]
    simp
theorem ctPegs_loop (w h : Nat) (hw : w ≤ 100) (hh : h ≤ 100) (e : Nat) : ∀ (k x : Nat) (acc : List S30), x + e = w → e * (h + 2) + 1 ≤ k → acc.length + e * h ≤ 20000 →
    spec_ctPegs.l0 k (w : Int) (h : Int) acc (x : Int) = some (acc ++ rowsFrom h x e) := by
  induction e with
  | zero =>
    intro k x acc hx hk hl
    obtain ⟨k, rfl⟩ : ∃ m, k = m + 1 := ⟨k - 1, by omega⟩
    simp only [spec_ctPegs.l0]
    rw [if_neg (by omega)]
    simp [rowsFrom]
  | succ e ih =>
    intro k x acc hx hk hl
    obtain ⟨k, rfl⟩ : ∃ m, k = m + 1 := ⟨k - 1, by omega⟩
    rw [Nat.succ_mul] at hk hl
    simp only [spec_ctPegs.l0]
    rw [if_pos (by omega)]
    have := ctPegs_in w h hh x (e * (h + 2) + 1) (rowsFrom h (x + 1) e) (acc.length + h) (by omega) (fun k' acc' hk' hl' => by
      rw [w64 (by omega) (by omega)]
      exact ih k' (x + 1) acc' (by omega) hk' (by omega)) h k 0 acc (by omega) (by omega) (by omega)
    rw [show ((0 : Nat) : Int) = 0 from rfl] at this
    rw [this, rowsFrom_succ, List.append_assoc]
theorem ctPegs_eq (k w h : Nat) (hw : w ≤ 100) (hh : h ≤ 100) (hk : 10300 ≤ k) : spec_ctPegs.f k (w : Int) (h : Int) = some (rowsFrom h 0 w) := by
  unfold spec_ctPegs.f
  have h1 : w * (h + 2) ≤ 100 * 102 := Nat.mul_le_mul hw (by omega)
  have h2 : w * h ≤ 100 * 100 := Nat.mul_le_mul hw hh
  have := ctPegs_loop w h hw hh w k 0 [] (by omega) (by omega) (by simp; omega)
  rw [show ((0 : Nat) : Int) = 0 from rfl] at this
  rw [this]
  simp

theorem board_in (w h : Nat) (hh : h ≤ 100) (x : Nat) (K0 : Nat) (R : List S30) (B : Nat) (hB : B ≤ 100000)
    (hc : ∀ k acc, K0 ≤ k → acc.length ≤ B → impl_board.l0 k (h : Int) acc (w : Int) (wrap64 ((x : Int) + 1)) = some (acc ++ R)) (d : Nat) : ∀ (k y : Nat) (acc : List S30), y + d = h → K0 + d + 1 ≤ k → acc.length + d ≤ B →
    impl_board.l1 k (h : Int) acc (x : Int) (w : Int) (x : Int) (h : Int) (y : Int) = some (acc ++ colFrom x y d ++ R) := by
  induction d with
  | zero =>
    intro k y acc hy hk hl
    obtain ⟨k, rfl⟩ : ∃ m, k = m + 1 := ⟨k - 1, by omega⟩
    simp only [impl_board.l1]
    rw [if_neg (by omega), hc k acc (by omega) (by omega)]
    simp [colFrom]
  | succ d ih =>
    intro k y acc hy hk hl
    obtain ⟨k, rfl⟩ : ∃ m, k = m + 1 := ⟨k - 1, by omega⟩
    simp only [impl_board.l1]
    rw [if_pos (by omega), if_pos (by omega), w64 (by omega) (by omega)]
    have := ih k (y + 1) (acc ++ [⟨(x : Int), (y : Int)⟩]) (by omega) (by omega) (by simp; omega)
    rw [show ((y : Int) + 1) = ((y + 1 : Nat) : Int) by omega, this, colFrom_succ]
    simp
theorem board_loop (w h : Nat) (hw : w ≤ 100) (hh : h ≤ 100) (e : Nat) : ∀ (k x : Nat) (acc : List S30), x + e = w → e * (h + 2) + 1 ≤ k → acc.length + e * h ≤ 20000 →
    impl_board.l0 k (h : Int) acc (w : Int) (x : Int) = some (acc ++ rowsFrom h x e) := by
  induction e with
  | zero =>
    intro k x acc hx hk hl
    obtain ⟨k, rfl⟩ : ∃ m, k = m + 1 := ⟨k - 1, by omega⟩
    simp only [impl_board.l0]
    rw [if_neg (by omega)]
    simp [rowsFrom]
  | succ e ih =>
    intro k x acc hx hk hl
    obtain ⟨k, rfl⟩ : ∃ m, k = m + 1 := ⟨k - 1, by omega⟩
    rw [Nat.succ_mul] at hk hl
    simp only [impl_board.l0]
    rw [if_pos (by omega)]
    have := board_in w h hh x (e * (h + 2) + 1) (rowsFrom h (x + 1) e) (acc.length + h) (by omega) (fun k' acc' hk' hl' => by
      rw [w64 (by omega) (by omega)]
      exact ih k' (x + 1) acc' (by omega) hk' (by omega)) h k 0 acc (by omega) (by omega) (by omega)
    rw [show ((0 : Nat) : Int) = 0 from rfl] at this
    rw [this, rowsFrom_succ, List.append_assoc]
theorem board_eq (k w h : Nat) (hw : w ≤ 100) (hh : h ≤ 100) (hk : 10300 ≤ k) : impl_board.f k (w : Int) (h : Int) = some (rowsFrom h 0 w) := by
  unfold impl_board.f
  have h1 : w * (h + 2) ≤ 100 * 102 := Nat.mul_le_mul hw (by omega)
  have h2 : w * h ≤ 100 * 100 := Nat.mul_le_mul hw hh
  have := board_loop w h hw hh w k 0 [] (by omega) (by omega) (by simp; omega)
  rw [show ((0 : Nat) : Int) = 0 from rfl] at this
  rw [this]
  simp

theorem rdPegNat (l : List S30) (i : Nat) (h : i < l.length) : rd_T30 l (i : Int) = l[i] := by
  unfold rd_T30
  simp [List.getD_eq_getElem?_getD, List.getElem?_eq_getElem h]

theorem idx_cons (p : K3 × Int) (r : List (K3 × Int)) (x : K3) : idxC (p :: r) x = if p.1 = x then 0 else idxC r x + 1 := by
  unfold idxC
  rw [List.findIdx_cons]
  by_cases h : p.1 = x
  · simp [h]
  · have h2 : (p.1 == x) = false := beq_eq_false_iff_ne.mpr h
    rw [h2, if_neg h]
    rfl
theorem cnt_nil (x : K3) : cntC [] x = 0 := by simp [cntC]
theorem cnt_cons (p : K3 × Int) (r : List (K3 × Int)) (x : K3) : cntC (p :: r) x = if p.1 = x then p.2 else cntC r x := by
  unfold cntC
  rw [idx_cons]
  by_cases h : p.1 = x
  · simp [h]
  · simp [h]
theorem put_nil (x : K3) : putC [] x = [(x, wrap64 (0 + 1))] := by simp [putC, enC, idxC, cntC]
theorem put_cons (p : K3 × Int) (r : List (K3 × Int)) (x : K3) : putC (p :: r) x = if p.1 = x then (x, wrap64 (p.2 + 1)) :: r else p :: putC r x := by
  unfold putC enC
  rw [idx_cons, cnt_cons]
  by_cases h : p.1 = x
  · simp [h]
  · simp only [if_neg h, List.length_cons, Nat.add_lt_add_iff_right]
    by_cases h2 : idxC r x < r.length
    · simp [h2]
    · simp [h2]
theorem cnt_put (cs : List (K3 × Int)) (x y : K3) : cntC (putC cs x) y = if x = y then wrap64 (cntC cs x + 1) else cntC cs y := by
  induction cs with
  | nil =>
    rw [put_nil, cnt_cons, cnt_nil, cnt_nil]
  | cons p r ih =>
    rw [put_cons, cnt_cons p r x, cnt_cons p r y]
    by_cases h : p.1 = x
    · rw [if_pos h, cnt_cons, if_pos h]
      by_cases h2 : x = y
      · simp [h2]
      · have : ¬ p.1 = y := fun e => h2 (h.symm.trans e)
        simp [h2, this]
    · rw [if_neg h, cnt_cons, ih, if_neg h]
      by_cases h2 : x = y
      · have : ¬ p.1 = y := fun e => h (e.trans h2.symm)
        simp [h2, this]
      · simp [h2]
theorem put_len (cs : List (K3 × Int)) (x : K3) : (putC cs x).length ≤ cs.length + 1 := by
  induction cs with
  | nil => rw [put_nil]; simp
  | cons p r ih =>
    rw [put_cons]
    by_cases h : p.1 = x
    · rw [if_pos h]; simp
    · rw [if_neg h]; simpa using ih
theorem put_all (M : Int) (hM : M ≤ 1000000) (cs : List (K3 × Int)) (x : K3) (h : ∀ p ∈ cs, 0 ≤ p.2 ∧ p.2 ≤ M) (hM0 : 0 ≤ M) : ∀ p ∈ putC cs x, 0 ≤ p.2 ∧ p.2 ≤ M + 1 := by
  induction cs with
  | nil =>
    intro p hp
    rw [put_nil, List.mem_singleton] at hp
    subst hp
    simp only []
    rw [w64 (by omega) (by omega)]
    omega
  | cons q r ih =>
    intro p hp
    rw [put_cons] at hp
    have hq := h q (by simp)
    by_cases e : q.1 = x
    · rw [if_pos e] at hp
      rcases List.mem_cons.1 hp with rfl | hp
      · simp only []
        rw [w64 (by omega) (by omega)]
        omega
      · have := h p (List.mem_cons_of_mem _ hp)
        omega
    · rw [if_neg e] at hp
      rcases List.mem_cons.1 hp with rfl | hp
      · omega
      · exact ih (fun p hp => h p (List.mem_cons_of_mem _ hp)) p hp
/-- Two of c chosen. -/
def twoOf (c : Int) : Int := Int.tdiv (c * (c - 1)) 2
theorem twoOf_succ (c : Int) (hc : 0 ≤ c) : twoOf (c + 1) = twoOf c + c := by
  unfold twoOf
  have h1 : 0 ≤ c * (c - 1) := by
    rcases Int.lt_or_le c 1 with h | h
    · have : c = 0 := by omega
      subst this
      decide
    · exact Int.mul_nonneg hc (by omega)
  have h2 : (c + 1) * (c + 1 - 1) = c * (c - 1) + 2 * c := by grind
  rw [h2, Int.tdiv_eq_ediv_of_nonneg h1, Int.tdiv_eq_ediv_of_nonneg (by omega)]
  omega
def sumT (cs : List (K3 × Int)) : Int := (cs.map fun p => twoOf p.2).sum
theorem sumT_put (cs : List (K3 × Int)) (x : K3) (h : ∀ p ∈ cs, 0 ≤ p.2 ∧ p.2 ≤ 1000000) : sumT (putC cs x) = sumT cs + cntC cs x := by
  induction cs with
  | nil =>
    rw [put_nil, cnt_nil]
    unfold sumT
    have : wrap64 (0 + 1) = 1 := by unfold wrap64; omega
    rw [this]
    simp [twoOf]
  | cons q r ih =>
    rw [put_cons, cnt_cons]
    have hq := h q (by simp)
    by_cases e : q.1 = x
    · rw [if_pos e, if_pos e]
      unfold sumT
      simp only [List.map_cons, List.sum_cons]
      rw [w64 (by omega) (by omega), twoOf_succ _ hq.1]
      omega
    · rw [if_neg e, if_neg e]
      have := ih (fun p hp => h p (List.mem_cons_of_mem _ hp))
      unfold sumT at this ⊢
      simp only [List.map_cons, List.sum_cons]
      omega

theorem mul_lim {a b A B : Int} (ha : 0 ≤ a) (hb : 0 ≤ b) (h1 : a ≤ A) (h2 : b ≤ B) : 0 ≤ a * b ∧ a * b ≤ A * B := ⟨Int.mul_nonneg ha hb, Int.mul_le_mul h1 h2 hb (by omega)⟩
theorem twoOf_lim (c : Int) (h0 : 0 ≤ c) (h1 : c ≤ 10000) : 0 ≤ twoOf c ∧ twoOf c ≤ 100000000 ∧ 0 ≤ c * (c - 1) ∧ c * (c - 1) ≤ 100000000 := by
  have h : 0 ≤ c * (c - 1) ∧ c * (c - 1) ≤ 100000000 := by
    rcases Int.lt_or_le c 1 with h | h
    · have : c = 0 := by omega
      subst this
      decide
    · exact mul_lim h0 (by omega) h1 (by omega : c - 1 ≤ 10000)
  unfold twoOf
  rw [Int.tdiv_eq_ediv_of_nonneg h.1]
  omega
theorem choose2_eq (k : Nat) (c : Int) (h0 : 0 ≤ c) (h1 : c ≤ 10000) (hk : 3 ≤ k) : impl_choose.f k c 2 = some (twoOf c) := by
  obtain ⟨k, rfl⟩ : ∃ m, k = m + 3 := ⟨k - 3, by omega⟩
  have hl := twoOf_lim c h0 h1
  unfold impl_choose.f
  rw [impl_choose.l0, if_pos (by decide), show wrap64 (0 + 1) = 1 by unfold wrap64; omega, if_neg (by decide)]
  rw [impl_choose.l0, if_pos (by decide), show wrap64 (1 + 1) = 2 by unfold wrap64; omega, if_neg (by decide)]
  rw [impl_choose.l0, if_neg (by decide)]
  have e1 : wrap64 (Int.tdiv (wrap64 (1 * (wrap64 (c - 0)))) 1) = c := by
    rw [Int.sub_zero, w64 (x := c) (by omega) (by omega), Int.one_mul, w64 (x := c) (by omega) (by omega), Int.tdiv_one, w64 (by omega) (by omega)]
  rw [e1, w64 (x := c - 1) (by omega) (by omega), w64 (x := c * (c - 1)) (by omega) (by omega)]
  have h2 := hl.1
  have h3 := hl.2.1
  unfold twoOf at h2 h3 ⊢
  rw [w64 (by omega) (by omega)]
theorem sumV_two (k : Nat) (hk : 3 ≤ k) (cs : List (K3 × Int)) (h : ∀ p ∈ cs, 0 ≤ p.2 ∧ p.2 ≤ 10000) (hl : cs.length ≤ 10000) : impl_CountRectangles.sumV k cs = some (sumT cs) ∧ 0 ≤ sumT cs ∧ sumT cs ≤ cs.length * 100000000 := by
  induction cs with
  | nil => exact ⟨rfl, by decide, by decide⟩
  | cons p r ih =>
    have hp := h p (by simp)
    simp only [List.length_cons] at hl
    obtain ⟨i1, i2, i3⟩ := ih (fun q hq => h q (List.mem_cons_of_mem _ hq)) (by omega)
    have ht := twoOf_lim p.2 hp.1 hp.2
    have e : sumT (p :: r) = twoOf p.2 + sumT r := by simp [sumT]
    rw [impl_CountRectangles.sumV, choose2_eq k p.2 hp.1 hp.2 hk, i1, Option.bind_some, Option.bind_some, e, w64 (by omega) (by omega)]
    refine ⟨rfl, by omega, ?_⟩
    simp only [List.length_cons]
    omega

/-- A pair's middle and its distance. -/
def keyP (p q : S30) : K3 := (wrap64 (p.f0 + q.f0), wrap64 (p.f1 + q.f1), wrap64 ((wrap64 ((wrap64 (p.f0 - q.f0)) * (wrap64 (p.f0 - q.f0)))) + (wrap64 ((wrap64 (p.f1 - q.f1)) * (wrap64 (p.f1 - q.f1))))))
def keysF (L : List S30) : Nat → Nat → List K3
  | 0, _ => []
  | d + 1, i => (L.take i).map (keyP (L.getD i z30)) ++ keysF L d (i + 1)
def eqS (n : Nat) (ks : List K3) : List K3 → Nat × List K3
  | [] => (n, ks)
  | x :: r => eqS (n + ks.count x) (ks ++ [x]) r
theorem eqS_append (a b : List K3) : ∀ (n : Nat) (ks : List K3), eqS n ks (a ++ b) = eqS (eqS n ks a).1 (eqS n ks a).2 b := by
  induction a with
  | nil => intro n ks; rfl
  | cons x r ih => intro n ks; exact ih _ _
theorem keysF_length (L : List S30) (hL : L.length ≤ 40) (d : Nat) : ∀ i, i + d = L.length → (keysF L d i).length ≤ d * 40 := by
  induction d with
  | zero => intro i _; simp [keysF]
  | succ d ih =>
    intro i hi
    have := ih (i + 1) (by omega)
    rw [keysF, List.length_append, List.length_map, List.length_take]
    omega
/-- The map and the lists agree. -/
theorem eqS_put (r : List K3) : ∀ (n : Nat) (ks : List K3) (cs : List (K3 × Int)) (M : Nat), M + r.length ≤ 10000 → (∀ x, cntC cs x = ((ks.count x : Nat) : Int)) → sumT cs = (n : Int) → (∀ p ∈ cs, 0 ≤ p.2 ∧ p.2 ≤ (M : Int)) → cs.length ≤ M → ks.length = M →
    sumT (r.foldl putC cs) = (((eqS n ks r).1 : Nat) : Int) ∧ (∀ p ∈ r.foldl putC cs, 0 ≤ p.2 ∧ p.2 ≤ 10000) ∧ (r.foldl putC cs).length ≤ 10000 := by
  induction r with
  | nil =>
    intro n ks cs M hM _ hs ha hl _
    simp only [List.length_nil] at hM
    refine ⟨hs, fun p hp => ?_, ?_⟩
    · have := ha p hp
      omega
    · show cs.length ≤ 10000
      omega
  | cons x r ih =>
    intro n ks cs M hM hc hs ha hl hk
    simp only [List.length_cons] at hM
    have hcl : ks.count x ≤ M := hk ▸ List.count_le_length
    refine ih (n + ks.count x) (ks ++ [x]) (putC cs x) (M + 1) (by omega) (fun y => ?_) ?_ ?_ ?_ (by simp; omega)
    · rw [cnt_put, List.count_append, List.count_singleton, hc, hc]
      by_cases e : x = y
      · subst e
        rw [if_pos rfl, w64 (by omega) (by omega)]
        simp
      · rw [if_neg e]
        simp [e]
    · rw [sumT_put cs x (fun p hp => by have := ha p hp; omega), hs, hc]
      omega
    · have := put_all (M : Int) (by omega) cs x ha (by omega)
      intro p hp
      have := this p hp
      omega
    · have := put_len cs x
      omega

theorem rectI_l1 (L : List S30) (x24 x25 : Int) (p : S30) (T : List S30) (hT : T.length ≤ 100) (K0 : Nat) (R : Int × Bool) (d : Nat) : ∀ (k j : Nat) (cs : List (K3 × Int)), j + d = T.length → K0 + d + 1 ≤ k →
    (∀ k, K0 ≤ k → impl_CountRectangles.l0 k L L x24 (wrap64 (x25 + 1)) (((T.drop j).map (keyP p)).foldl putC cs) = some R) →
    impl_CountRectangles.l1 k L L x24 x25 T (T.length : Int) (j : Int) cs p.f0 p.f1 = some R := by
  induction d with
  | zero =>
    intro k j cs hj hk hc
    obtain ⟨k, rfl⟩ : ∃ m, k = m + 1 := ⟨k - 1, by omega⟩
    simp only [impl_CountRectangles.l1]
    rw [if_neg (by omega)]
    rw [List.drop_of_length_le (by omega)] at hc
    exact hc k (by omega)
  | succ d ih =>
    intro k j cs hj hk hc
    obtain ⟨k, rfl⟩ : ∃ m, k = m + 1 := ⟨k - 1, by omega⟩
    have hlt : j < T.length := by omega
    simp only [impl_CountRectangles.l1]
    rw [if_pos (by omega), if_pos (by omega), if_pos (by omega), rdPegNat T j hlt]
    unfold impl_Peg_plus.f impl_Peg_less.f impl_Peg_square.f
    simp only [Option.bind_some]
    rw [w64 (x := (j : Int) + 1) (by omega) (by omega)]
    refine ih k (j + 1) _ (by omega) (by omega) (fun k hk => ?_)
    have := hc k hk
    rw [List.drop_eq_getElem_cons hlt, List.map_cons, List.foldl_cons] at this
    exact this
theorem rectI_l0 (L : List S30) (hL : L.length ≤ 40) (K0 : Nat) (d : Nat) : ∀ (k i : Nat) (cs : List (K3 × Int)) (R : Int × Bool), i + d = L.length → K0 + d * 60 + 1 ≤ k →
    (∀ k, K0 ≤ k → ((impl_CountRectangles.sumV k ((keysF L d i).foldl putC cs)).bind fun s => some (s, true)) = some R) →
    impl_CountRectangles.l0 k L L (L.length : Int) (i : Int) cs = some R := by
  induction d with
  | zero =>
    intro k i cs R hi hk hc
    obtain ⟨k, rfl⟩ : ∃ m, k = m + 1 := ⟨k - 1, by omega⟩
    simp only [impl_CountRectangles.l0]
    rw [if_neg (by omega)]
    exact hc k (by omega)
  | succ d ih =>
    intro k i cs R hi hk hc
    obtain ⟨k, rfl⟩ : ∃ m, k = m + 1 := ⟨k - 1, by omega⟩
    have hlt : i < L.length := by omega
    have hg : L.getD i z30 = L[i] := by rw [List.getD_eq_getElem?_getD, List.getElem?_eq_getElem hlt, Option.getD_some]
    have ht : (L.take i).length = i := by rw [List.length_take]; omega
    simp only [impl_CountRectangles.l0]
    rw [if_pos (by omega), if_pos (by omega), if_pos (by omega), if_pos (by omega), Option.bind_some, rdPegNat L i hlt, Int.toNat_natCast]
    refine rectI_l1 L (L.length : Int) (i : Int) L[i] (L.take i) (by omega) (K0 + d * 60 + 1) R (L.take i).length k 0 cs (by omega) (by omega) (fun k hk => ?_)
    rw [w64 (by omega) (by omega)]
    refine ih k (i + 1) _ R (by omega) hk (fun k hk => ?_)
    have := hc k hk
    rw [keysF, List.foldl_append, hg] at this
    exact this

def midK (x : K3) : S30 := ⟨x.1, x.2.1⟩
theorem rdI_nat (l : List Int) (i : Nat) (h : i < l.length) : rd l (i : Int) = l[i] := by
  unfold rd
  simp [List.getD_eq_getElem?_getD, List.getElem?_eq_getElem h]
theorem rectS_l2 (L : List S30) (x26 x27 x35 x36 : Int) (T : List S30) (p0 p1 : Int) (ks : List K3) (hks : ks.length ≤ 10000) (x : K3) (K0 : Nat) (R : Int × Bool) (d : Nat) : ∀ (k j n : Nat), j + d = ks.length → n + d ≤ 200000000 → K0 + d + 1 ≤ k →
    (∀ k, K0 ≤ k → spec_CountRectangles.l1 k L ((ks ++ [x]).map midK) ((ks ++ [x]).map (·.2.2)) ((n + (ks.drop j).count x : Nat) : Int) L x26 x27 T x35 (wrap64 (x36 + 1)) p0 p1 = some R) →
    spec_CountRectangles.l2 k L (ks.map midK) (ks.map (·.2.2)) (n : Int) x.2.2 L x26 x27 T x35 x36 (ks.map midK) (ks.length : Int) (j : Int) p0 p1 x.1 x.2.1 = some R := by
  induction d with
  | zero =>
    intro k j n hj hn hk hc
    obtain ⟨k, rfl⟩ : ∃ m, k = m + 1 := ⟨k - 1, by omega⟩
    simp only [spec_CountRectangles.l2]
    rw [if_neg (by omega), if_pos (by simp; omega), if_pos (by simp; omega)]
    rw [List.drop_of_length_le (by omega)] at hc
    have := hc k (by omega)
    simpa [midK] using this
  | succ d ih =>
    intro k j n hj hn hk hc
    obtain ⟨k, rfl⟩ : ∃ m, k = m + 1 := ⟨k - 1, by omega⟩
    have hlt : j < ks.length := by omega
    have hm : (ks.map midK)[j]'(by simpa using hlt) = midK ks[j] := by simp
    simp only [spec_CountRectangles.l2]
    rw [if_pos (by omega), if_pos (by omega), if_pos (by simp; omega), rdPegNat (ks.map midK) j (by simpa using hlt), hm, w64 (x := (j : Int) + 1) (by omega) (by omega)]
    rw [List.drop_eq_getElem_cons hlt, List.count_cons] at hc
    by_cases c1 : (((midK ks[j]).f0) == x.1 && (((midK ks[j]).f1) == x.2.1)) = true
    · rw [if_pos c1, if_pos (by simp; omega), rdI_nat _ j (by simpa using hlt), List.getElem_map]
      simp only [midK, Bool.and_eq_true, beq_iff_eq] at c1
      by_cases c2 : (ks[j]).2.2 = x.2.2
      · have e : ks[j] = x := Prod.ext c1.1 (Prod.ext c1.2 c2)
        rw [if_pos c2, w64 (x := (n : Int) + 1) (by omega) (by omega)]
        refine ih k (j + 1) (n + 1) (by omega) (by omega) (by omega) (fun k hk => ?_)
        have := hc k hk
        rw [e, if_pos (by simp)] at this
        rw [show n + 1 + (ks.drop (j + 1)).count x = n + ((ks.drop (j + 1)).count x + 1) by omega]
        exact this
      · have e : ¬ ks[j] = x := fun e => c2 (by rw [e])
        rw [if_neg c2]
        refine ih k (j + 1) n (by omega) (by omega) (by omega) (fun k hk => ?_)
        have := hc k hk
        rw [if_neg (by simpa using e)] at this
        exact this
    · have e : ¬ ks[j] = x := fun e => c1 (by rw [e]; simp [midK])
      rw [if_neg c1]
      refine ih k (j + 1) n (by omega) (by omega) (by omega) (fun k hk => ?_)
      have := hc k hk
      rw [if_neg (by simpa using e)] at this
      exact this
theorem rectS_l1 (L : List S30) (x26 x27 : Int) (p : S30) (T : List S30) (hT : T.length ≤ 100) (K0 : Nat) (R : Int × Bool) (d : Nat) : ∀ (k j n : Nat) (ks : List K3), j + d = T.length → ks.length + d ≤ 5000 → n + (ks.length + d) * d ≤ 100000000 → K0 + d * 5002 + 1 ≤ k →
    (∀ k, K0 ≤ k → spec_CountRectangles.l0 k L ((eqS n ks ((T.drop j).map (keyP p))).2.map midK) ((eqS n ks ((T.drop j).map (keyP p))).2.map (·.2.2)) (((eqS n ks ((T.drop j).map (keyP p))).1 : Nat) : Int) L x26 (wrap64 (x27 + 1)) = some R) →
    spec_CountRectangles.l1 k L (ks.map midK) (ks.map (·.2.2)) (n : Int) L x26 x27 T (T.length : Int) (j : Int) p.f0 p.f1 = some R := by
  induction d with
  | zero =>
    intro k j n ks hj hks hn hk hc
    obtain ⟨k, rfl⟩ : ∃ m, k = m + 1 := ⟨k - 1, by omega⟩
    simp only [spec_CountRectangles.l1]
    rw [if_neg (by omega)]
    rw [List.drop_of_length_le (by omega)] at hc
    exact hc k (by omega)
  | succ d ih =>
    intro k j n ks hj hks hn hk hc
    obtain ⟨k, rfl⟩ : ∃ m, k = m + 1 := ⟨k - 1, by omega⟩
    have hlt : j < T.length := by omega
    have hcl : ks.count (keyP p T[j]) ≤ ks.length := List.count_le_length
    have hn2 : n + ks.length + (ks.length + 1 + d) * d ≤ 100000000 := by
      have e : (ks.length + (d + 1)) * (d + 1) = (ks.length + 1 + d) * d + (ks.length + 1 + d) := by rw [show ks.length + (d + 1) = ks.length + 1 + d by omega, Nat.mul_succ]
      rw [e] at hn
      omega
    simp only [spec_CountRectangles.l1]
    rw [if_pos (by omega), if_pos (by omega), if_pos (by omega), rdPegNat T j hlt]
    have := rectS_l2 L x26 x27 (T.length : Int) (j : Int) T p.f0 p.f1 ks (by omega) (keyP p T[j]) (K0 + d * 5002 + 1) R ks.length k 0 n (by omega) (by omega) (by omega) (fun k hk => by
      rw [w64 (x := (j : Int) + 1) (by omega) (by omega)]
      refine ih k (j + 1) (n + (ks.drop 0).count (keyP p T[j])) (ks ++ [keyP p T[j]]) (by omega) (by simp; omega) ?_ hk (fun k hk => ?_)
      · rw [List.drop_zero, List.length_append, List.length_singleton]
        omega
      · have := hc k hk
        rw [List.drop_eq_getElem_cons hlt, List.map_cons] at this
        exact this)
    rw [List.length_map]
    exact this

/-- The one pure statement of the law FnExactCountRectangles. -/
def FnExactCountRectangles.Pure : Prop :=
  ∀ (a0 : Int) (a1 : Int), I64 a0 → I64 a1 → ∃ k, laws_FnExactCountRectangles.f k a0 a1 = some true

theorem eqS_len (r : List K3) : ∀ (n : Nat) (ks : List K3) (M : Nat), ks.length + r.length ≤ M → (eqS n ks r).2.length = ks.length + r.length ∧ (eqS n ks r).1 ≤ n + r.length * M := by
  induction r with
  | nil => intro n ks M _; simp [eqS]
  | cons x r ih =>
    intro n ks M h
    simp only [List.length_cons] at h ⊢
    have hcl : ks.count x ≤ ks.length := List.count_le_length
    obtain ⟨h1, h2⟩ := ih (n + ks.count x) (ks ++ [x]) M (by simp; omega)
    rw [eqS]
    refine ⟨by rw [h1]; simp; omega, ?_⟩
    rw [Nat.succ_mul]
    omega
theorem rectS_l0 (L : List S30) (hL : L.length ≤ 40) (K0 : Nat) (d : Nat) : ∀ (k i n : Nat) (ks : List K3) (R : Int × Bool), i + d = L.length → ks.length + d * 40 ≤ 1600 → n + d * 400000 ≤ 50000000 → K0 + d * 300000 + 1 ≤ k →
    ((((eqS n ks (keysF L d i)).1 : Nat) : Int), true) = R →
    spec_CountRectangles.l0 k L (ks.map midK) (ks.map (·.2.2)) (n : Int) L (L.length : Int) (i : Int) = some R := by
  induction d with
  | zero =>
    intro k i n ks R hi hks hn hk hc
    obtain ⟨k, rfl⟩ : ∃ m, k = m + 1 := ⟨k - 1, by omega⟩
    simp only [spec_CountRectangles.l0]
    rw [if_neg (by omega), ← hc]
    rfl
  | succ d ih =>
    intro k i n ks R hi hks hn hk hc
    obtain ⟨k, rfl⟩ : ∃ m, k = m + 1 := ⟨k - 1, by omega⟩
    have hlt : i < L.length := by omega
    have hg : L.getD i z30 = L[i] := by rw [List.getD_eq_getElem?_getD, List.getElem?_eq_getElem hlt, Option.getD_some]
    have ht : (L.take i).length = i := by rw [List.length_take]; omega
    have hel := eqS_len ((L.take i).map (keyP L[i])) n ks 1600 (by rw [List.length_map]; omega)
    rw [List.length_map, ht] at hel
    have hmul : (ks.length + i) * i ≤ 1600 * 40 := Nat.mul_le_mul (by omega) (by omega)
    have hmul2 : i * 1600 ≤ 40 * 1600 := Nat.mul_le_mul_right _ (by omega)
    simp only [spec_CountRectangles.l0]
    rw [if_pos (by omega), if_pos (by omega), if_pos (by omega), if_pos (by omega), Option.bind_some, rdPegNat L i hlt, Int.toNat_natCast]
    refine rectS_l1 L (L.length : Int) (i : Int) L[i] (L.take i) (by omega) (K0 + d * 300000 + 1) R (L.take i).length k 0 n ks (by omega) (by omega) (by rw [ht]; omega) (by rw [ht]; omega) (fun k hk => ?_)
    rw [w64 (by omega) (by omega), List.drop_zero]
    refine ih k (i + 1) _ _ R (by omega) (by omega) (by omega) hk ?_
    rw [← hc, keysF, eqS_append, hg]
theorem rect_both (w h : Int) : ∃ R, ∀ k, 13000000 ≤ k → spec_CountRectangles.f k w h = some R ∧ impl_CountRectangles.f k w h = some R := by
  by_cases c : (1 ≤ w ∧ w ≤ 6) ∧ (1 ≤ h ∧ h ≤ 6)
  · obtain ⟨W, rfl⟩ : ∃ n : Nat, w = n := ⟨w.toNat, by omega⟩
    obtain ⟨H, rfl⟩ : ∃ n : Nat, h = n := ⟨h.toNat, by omega⟩
    have hm : W * H ≤ 6 * 6 := Nat.mul_le_mul (by omega) (by omega)
    have hlen := rowsFrom_length H 0 W
    have hkl := keysF_length (rowsFrom H 0 W) (by omega) (rowsFrom H 0 W).length 0 (by omega)
    obtain ⟨e1, e2, e3⟩ := eqS_put (keysF (rowsFrom H 0 W) (rowsFrom H 0 W).length 0) 0 [] [] 0 (by omega) (fun x => by rw [cnt_nil]; rfl) rfl (fun p hp => absurd hp (by simp)) (by simp) rfl
    refine ⟨((((eqS 0 [] (keysF (rowsFrom H 0 W) (rowsFrom H 0 W).length 0)).1 : Nat) : Int), true), fun k hk => ⟨?_, ?_⟩⟩
    · unfold spec_CountRectangles.f
      rw [ctBoard_eq, Option.bind_some, if_pos (by simpa using c), ctPegs_eq k W H (by omega) (by omega) (by omega), Option.bind_some]
      exact rectS_l0 (rowsFrom H 0 W) (by omega) 0 (rowsFrom H 0 W).length k 0 0 [] _ (by omega) (by simp; omega) (by omega) (by omega) rfl
    · unfold impl_CountRectangles.f
      rw [isBoard_eq, Option.bind_some, if_pos (by simpa using c), board_eq k W H (by omega) (by omega) (by omega), Option.bind_some]
      refine rectI_l0 (rowsFrom H 0 W) (by omega) 3 (rowsFrom H 0 W).length k 0 [] _ (by omega) (by omega) (fun k hk => ?_)
      rw [(sumV_two k hk _ e2 e3).1, Option.bind_some, e1]
  · refine ⟨(0, false), fun k _ => ⟨?_, ?_⟩⟩
    · unfold spec_CountRectangles.f
      rw [ctBoard_eq, Option.bind_some, if_neg (by simpa using c)]
    · unfold impl_CountRectangles.f
      rw [isBoard_eq, Option.bind_some, if_neg (by simpa using c)]
theorem FnExactCountRectangles : FnExactCountRectangles.Pure := by
  intro w h _ _
  obtain ⟨k, hk⟩ : ∃ k : Nat, 13000000 ≤ k := ⟨13000000, Nat.le_refl _⟩
  refine ⟨k, ?_⟩
  obtain ⟨R, hR⟩ := rect_both w h
  unfold laws_FnExactCountRectangles.f
  rw [(hR k hk).1, Option.bind_some, (hR k hk).2, Option.bind_some, if_pos rfl, if_neg (by simp)]

end Go.Proofs.Ytookmifpgclhlaa.Pure
