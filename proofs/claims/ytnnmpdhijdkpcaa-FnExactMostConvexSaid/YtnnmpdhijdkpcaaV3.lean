/- Words of this session for a callback of the library's sort: the world that a walk leaves, with how much was drawn. No condition beyond those typed. -/
import Derived.Test.YtnnmpdhijdkpcaaV2
import Derived.Test.YtnnmpdhijdkpcaaWRepsOne
import Derived.Test.YtnnmpdhijdkpcaaShelf
namespace Go.Proofs.YtnnmpdhijdkpcaaV
open Go.RowKit Go.Proofs.YtnnmpdhijdkpcaaW.PrintWords Go.Proofs.YtnnmpdhijdkpcaaW.PrintLast Go.Proofs.YtnnmpdhijdkpcaaW.PrintMore
open Go.ChangeShapes Go.WideShapes Go.Deep Go.Joins Go.Sort

/-- Only what is new differs, and nothing drawn was given back. -/
structure BelowD (B : Nat) (w w' : World) : Prop where
  b : Below B w w'
  d : w.drawn ≤ w'.drawn
theorem BelowD.refl (B : Nat) (w : World) : BelowD B w w := ⟨Below.refl B w, Nat.le_refl _⟩
theorem belowD_step {w W W2 : World} (h : BelowD w.heap.size w W) (k : BelowD W.heap.size W W2) : BelowD w.heap.size w W2 := ⟨below_step h.b k.b, Nat.le_trans h.d k.d⟩
theorem belowD_alloc {w W : World} (h : BelowD w.heap.size w W) (o : Obj) : BelowD w.heap.size w (W.alloc o) := ⟨below_alloc h.b o, h.d⟩
theorem belowD_drewN {B : Nat} {w W : World} (h : BelowD B w W) (n : Nat) : BelowD B w (W.drewN n) := ⟨pw_below_drewN h.b n, Nat.le_trans h.d (Nat.le_add_right _ _)⟩
theorem belowD_drew1 {B : Nat} {w W : World} (h : BelowD B w W) : BelowD B w W.drew := ⟨below_drew1 h.b, Nat.le_trans h.d (Nat.le_succ _)⟩
/-- The world is the old one, with draws and new blocks. -/
theorem BelowD.grown {w W : World} (h : BelowD w.heap.size w W) : ∃ q os, W = grow (w.drewN q) os := by
  obtain ⟨⟨h1, h2, h3, h4, h5⟩, h6⟩ := h
  refine ⟨W.drawn - w.drawn, W.heap.extract w.heap.size W.heap.size, ?_⟩
  obtain ⟨heap, tape, drawn, os, out⟩ := W
  obtain ⟨heap0, tape0, drawn0, os0, out0⟩ := w
  simp only at h1 h2 h3 h4 h5 h6
  subst h1 h2 h3
  unfold grow World.drewN
  simp only [World.mk.injEq, true_and, and_true]
  refine ⟨?_, by omega⟩
  apply Array.ext_getElem?
  intro i
  by_cases c : i < heap0.size
  · rw [h5 i c, Array.getElem?_append_left c]
  · rw [Array.getElem?_append_right (by omega), Array.getElem?_extract]
    by_cases c2 : i < heap.size
    · rw [if_pos (by omega)]
      congr 1
      omega
    · rw [Array.getElem?_eq_none (by omega), if_neg (by omega)]
section
variable {P : Program} {ops : Array Oper} {rest : List Oper} {o : Oper} {a : Act} {Q : Exit → Act → World → Prop}
theorem box_eventD {W : World} (hgd : o.guard = none) {N : Tmp} (_hd : o.dst = some N) {cs : Array Value} {t : TypeId}
    (hrun : (execOp a.eval o).run P W = .ok (.value (.pointer (some ⟨W.heap.size, 0, none⟩))) (W.alloc (.cells cs t (0, 0))))
    (h : ∀ g, g = W.heap.size → ∀ w1, w1.heap[g]? = some (.cells cs t (0, 0)) → BelowD W.heap.size W w1 → wpList P ops Q rest (a.put o.dst (.pointer (some ⟨g, 0, none⟩))) w1) : wpList P ops Q (o :: rest) a W :=
  Kd.event_run hgd hrun (h _ rfl _ (blk_new W _) (belowD_alloc (BelowD.refl _ _) _))
end
theorem belowD_size {w W : World} (h : BelowD w.heap.size w W) : w.heap.size ≤ W.heap.size := h.b.size
section
variable {P : Program} {ops : Array Oper} {o : Oper} {a : Act} {Q : Exit → Act → World → Prop} {Kc : Act → World → Prop}
/-- A literal of two whole numbers, in a region that draws. -/
theorem lit2D {W : World} (hw : Region.wanted o (yielded ops a.tmps) = true) {N : Tmp} (_hd : o.dst = some N) {x y : Int} {e : TypeId}
    (hrun : (execOp a.eval o).run P W = .ok (.value (.slice (some ⟨W.heap.size, 0, none⟩) 2 2)) (W.alloc (.cells #[.int .i64 x, .int .i64 y] e)))
    (h : ∀ v1 w1, (Kd.int .i64).R e w1 W.heap.size (fun _ => True) v1 [x, y] → BelowD W.heap.size W w1 → W.grownBy w1 none → (∃ b, v1.ownBlock = some b ∧ W.heap.size ≤ b) → Kc (a.put o.dst v1) w1) : if Region.wanted o (yielded ops a.tmps) = true then Oper.wp P o a W Kc Q else Kc (a.put o.dst undef) W := by
  refine event_step hw hrun (h _ _ ⟨fun _ _ => trivial, [.int .i64 x, .int .i64 y], ?_, Reps.one (show Kd.M (Kd.int .i64) _ _ _ x [.int .i64 x] from rfl) (Reps.one (show Kd.M (Kd.int .i64) _ _ _ y [.int .i64 y] from rfl) (Reps.none _ _))⟩ (belowD_alloc (BelowD.refl _ _) _) (World.grownBy_alloc W _ none) ⟨W.heap.size, by simp [Value.ownBlock], Nat.le_refl _⟩)
  have h2 := World.ownsRow_lit (base := W.heap.size) (e := e) (size := 1) W #[.int .i64 x, .int .i64 y] 2 (Nat.le_refl _) (by simp [maxLen]) (by simp)
  have h3 : (W.alloc (.cells #[.int .i64 x, .int .i64 y] e)).ownsRow W.heap.size e 1 (.slice (some ⟨W.heap.size, 0, none⟩) 2 2) 2 [.int .i64 x, .int .i64 y] := by simpa using h2
  exact h3
end
end Go.Proofs.YtnnmpdhijdkpcaaV
