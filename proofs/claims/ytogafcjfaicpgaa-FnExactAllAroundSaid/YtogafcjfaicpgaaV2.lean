/- Further lemmas of this session that serve every text of the seat. No condition beyond those typed. -/
import Derived.Test.YtogafcjfaicpgaaV
import Derived.WalkSpells
import Derived.Lib.SliceRun
namespace Go.Proofs.YtogafcjfaicpgaaV
open Go.RowKit Go.Proofs.YtogafcjfaicpgaaW.PrintWords Go.Proofs.YtogafcjfaicpgaaW.PrintLast
theorem v2_here : True := trivial
/-- What is known of the world, a few plain steps on. -/
theorem hb_ {B : Nat} {w W : World} (h : Below B w W := by repeat (first | (with_reducible first | exact HB.out | apply below_alloc | apply pw_below_drewN | apply below_drew1) | exact HB.out)) : Below B w W := h
theorem hbg_ {B : Nat} {w W : World} (h : Below B w W := by repeat (first | (with_reducible first | exact HB.out | apply below_alloc | apply pw_below_drewN | apply below_drew1 | refine below_set ?_ (Aside0.out (by assumption))) | exact HB.out)) : Below B w W := h
theorem rk_ {α : Type} {d : Kd α} {e base : Nat} {W W' : World} {ok : Nat → Prop} {v : Value} {xs : List α} (h : d.R e W base ok v xs) (hb : Below W.heap.size W W' := by with_reducible repeat (first | exact Below.refl _ _ | apply below_alloc | apply pw_below_drewN | apply below_drew1)) : d.R e W' base ok v xs := Kd.R_below h hb
theorem bk_ {W W' : World} {g : Nat} {o : Obj} (h : W.heap[g]? = some o) (hb : Below W.heap.size W W' := by with_reducible repeat (first | exact Below.refl _ _ | apply below_alloc | apply pw_below_drewN | apply below_drew1)) : W'.heap[g]? = some o := blk_below h hb
theorem bb_ {W W' W'' : World} {g : Nat} {o : Obj} (h : Aside0 (W.heap[g]? = some o)) (hb' : Below W'.heap.size W' W'') (hb : Below W.heap.size W W' := by with_reducible repeat (first | exact Below.refl _ _ | apply below_alloc | apply pw_below_drewN | apply below_drew1)) : Aside0 (W''.heap[g]? = some o) := ⟨blk_below (blk_below h.out hb) hb'⟩
theorem bf2_ {W : World} {g g' i j : Nat} {v v2 : Value} {t : TypeId} {cs : Array Value} (h : Aside0 (W.heap[g]? = some (.cells cs t (0, 0)))) (ne : Aside0 (g ≠ g')) : ((W.setCell ⟨g', i, none⟩ v).setCell ⟨g', j, none⟩ v2).heap[g]? = some (.cells cs t (0, 0)) := blk_far (p := ⟨g', j, none⟩) (blk_far (p := ⟨g', i, none⟩) h.out ne.out _) ne.out _
theorem ga_ {p : Prop} (h : p := by (try simp only [List.map_toArray, List.map_cons, List.map_nil]); first | done | rfl | (simp only [List.length_drop, List.length_take]; rfl)) : p := h
theorem sA {α : Type} (l : List α) (i : Nat) (a : α) : l.toArray.setIfInBounds i a = (l.set i a).toArray := List.setIfInBounds_toArray ..
theorem sB {α : Type} (x : α) (xs : List α) (a : α) : (x :: xs).set 0 a = a :: xs := rfl
theorem sC {α : Type} (x : α) (xs : List α) (i : Nat) (a : α) : (x :: xs).set (i + 1) a = x :: xs.set i a := rfl
theorem odt_ {p : Prop} [Decidable p] (h : decide p = true := by first | (with_reducible assumption) | assumption) : p := of_decide_eq_true h
/-- A row's block hangs on its address alone. -/
theorem own_len (A : Option Addr) (n m c : Nat) : (Value.slice A n c).ownBlock = (Value.slice A m c).ownBlock := by cases A <;> rfl
end Go.Proofs.YtogafcjfaicpgaaV
