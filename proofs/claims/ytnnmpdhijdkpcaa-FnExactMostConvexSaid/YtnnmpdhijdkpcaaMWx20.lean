-- Written by a program of this session (wip/print/myprint.py) over the kit's printer; Lean checks it.
import Derived.Test.YtnnmpdhijdkpcaaMWx0
import Derived.Test.YtnnmpdhijdkpcaaMWx13
import Derived.Test.YtnnmpdhijdkpcaaMWx15
import Derived.Test.YtnnmpdhijdkpcaaMWx18
import Derived.Test.YtnnmpdhijdkpcaaMWx19
namespace Go.Proofs.Ytnnmpdhijdkpcaa.MW
open Go.RowKit Go.Proofs.YtnnmpdhijdkpcaaW.PrintWords Go.Proofs.YtnnmpdhijdkpcaaW.PrintLast Go.Proofs.YtnnmpdhijdkpcaaW.PrintMore Go.Proofs.YtnnmpdhijdkpcaaV
attribute [local go_sem] max2_int min2_int max_two min_two max_three min_three max_four min_four   -- for this text's walks alone
set_option linter.unusedVariables false
set_option linter.unusedSimpArgs false

/-- A variable of type []Peg at block g of W. -/
def IsB26 (w0 W : World) (g : Nat) (f0 : Value) : Prop := W.heap[g]? = some (.cells #[f0] 26 (0, 0)) ∧ w0.heap.size ≤ g
theorem IsB26.grown {w0 W : World} {g : Nat} {f0 : Value} {W1 : World} {row : Option Nat} (h : IsB26 w0 W g f0) (hw : W.grownBy W1 row) (hne : some g ≠ row) : IsB26 w0 W1 g f0 := by
 obtain ⟨hb, hg⟩ := h
 exact ⟨blk_grown hb hw hne, hg⟩
theorem IsB26.own_neN {w0 W : World} {g : Nat} {f0 : Value} {α : Type} {d : Kd α} {e : Nat} {base : Nat} {ok : Nat → Prop} {v : Value} {xs : List α} (h : IsB26 w0 W g f0) (ho : Kd.N d e W base ok v xs) (ht : e ≠ 26) : some g ≠ v.ownBlock := by
 obtain ⟨hb, hg⟩ := h
 exact Kd.N_ne ho hb ht
theorem IsB26.fresh {w0 W : World} {g : Nat} {f0 : Value} (h : IsB26 w0 W g f0) : ∀ k, W.heap.size ≤ k → k ≠ g := by
 obtain ⟨hb, hg⟩ := h
 exact Kd.freshB hb
theorem IsB26.kept {w0 W : World} {g : Nat} {f0 : Value} {W1 : World} {S : Nat → Prop} (h : IsB26 w0 W g f0) (hk : Kept W W1 S) (hne : ¬ S g) : IsB26 w0 W1 g f0 := by
 obtain ⟨hb, hg⟩ := h
 exact ⟨blk_kept hb hk hne, hg⟩
theorem IsB26.below {w0 W : World} {g : Nat} {f0 : Value} {W1 : World} (h : IsB26 w0 W g f0) (hw : Below W.heap.size W W1) : IsB26 w0 W1 g f0 := h.grown (grown_of_below hw none) (by simp)
theorem IsB26.alloc {w0 W : World} {g : Nat} {f0 : Value} (h : IsB26 w0 W g f0) (o : Obj) : IsB26 w0 (W.alloc o) g f0 := h.below (below_alloc (Below.refl _ _) o)
theorem IsB26.drewN {w0 W : World} {g : Nat} {f0 : Value} (h : IsB26 w0 W g f0) (m : Nat) : IsB26 w0 (W.drewN m) g f0 := h
theorem IsB26.drew {w0 W : World} {g : Nat} {f0 : Value} (h : IsB26 w0 W g f0) : IsB26 w0 W.drew g f0 := h
theorem IsB26.at_ {w0 W : World} {g : Nat} {f0 : Value} {w' : World} {m : Nat} (hq : W.drewN m = w') (h : IsB26 w0 W g f0) : IsB26 w0 w' g f0 := by subst hq; exact IsB26.drewN h m
theorem IsB26.apart {w0 W : World} {g : Nat} {f0 : Value} {α : Type} {d : Kd α} {e : Nat} {base : Nat} {ok : Nat → Prop} {v : Value} {xs : List α} (h : IsB26 w0 W g f0) (ho : d.R e W base ok v xs) (ht : ∀ q, q ∈ e :: d.E → q ≠ 26) : d.R e W base (fun k => ok k ∧ k ≠ g) v xs := by
 obtain ⟨hb, hg⟩ := h
 exact Kd.R_types ho hb ht
theorem IsB26.own_ne {w0 W : World} {g : Nat} {f0 : Value} {α : Type} {d : Kd α} {e : Nat} {base : Nat} {ok : Nat → Prop} {v : Value} {xs : List α} (h : IsB26 w0 W g f0) (ho : d.R e W base ok v xs) (ht : e ≠ 26) : some g ≠ v.ownBlock := by
 obtain ⟨hb, hg⟩ := h
 exact Kd.R_ne ho hb ht
theorem IsB26.apartQ {w0 W : World} {g : Nat} {f0 : Value} {α : Type} {d : Kd α} {e : Nat} {base : Nat} {ok : Nat → Prop} {v : Value} {xs : List α} (h : IsB26 w0 W g f0) (ho : d.Q e W base ok v xs) (ht : ∀ q, q ∈ e :: d.E → q ≠ 26) : d.Q e W base (fun k => ok k ∧ k ≠ g) v xs := by
 obtain ⟨hb, hg⟩ := h
 exact Kd.Q_types ho hb ht
theorem IsB26.own_neQ {w0 W : World} {g : Nat} {f0 : Value} {α : Type} {d : Kd α} {e : Nat} {base : Nat} {ok : Nat → Prop} {v : Value} {xs : List α} (h : IsB26 w0 W g f0) (ho : d.Q e W base ok v xs) (ht : e ≠ 26) : some g ≠ v.ownBlock := by
 obtain ⟨hb, hg⟩ := h
 exact Kd.Q_ne ho hb ht
theorem IsB26.apartS {w0 W : World} {g : Nat} {f0 : Value} {α : Type} {d : Kd α} {e : Nat} {base : Nat} {ok : Nat → Prop} {v : Value} {xs : List α} (h : IsB26 w0 W g f0) (ho : d.S e W base ok v xs) (ht : ∀ q, q ∈ e :: d.E → q ≠ 26) : d.S e W base (fun k => ok k ∧ k ≠ g) v xs := by
 obtain ⟨hb, hg⟩ := h
 exact Kd.S_types ho hb ht
theorem IsB26.own_neS {w0 W : World} {g : Nat} {f0 : Value} {α : Type} {d : Kd α} {e : Nat} {base : Nat} {ok : Nat → Prop} {v : Value} {xs : List α} (h : IsB26 w0 W g f0) (ho : d.S e W base ok v xs) (ht : e ≠ 26) : some g ≠ v.ownBlock := by
 obtain ⟨hb, hg⟩ := h
 exact Kd.S_ne ho hb ht
theorem IsB26.lt {w0 W : World} {g : Nat} {f0 : Value} (h : IsB26 w0 W g f0) : g < W.heap.size := by
 obtain ⟨hb, hg⟩ := h
 exact blk_lt hb
theorem IsB26.ge {w0 W : World} {g : Nat} {f0 : Value} (h : IsB26 w0 W g f0) : w0.heap.size ≤ g := by
 obtain ⟨hb, hg⟩ := h
 exact hg
theorem IsB26.ne_blk {w0 W : World} {g : Nat} {f0 : Value} {a : Nat} {cs : Array Value} {t : TypeId} {fr : Nat × Nat} (h : IsB26 w0 W g f0) (hb2 : W.heap[a]? = some (.cells cs t fr)) (ht : t ≠ 26) : g ≠ a := by
 obtain ⟨hb, hg⟩ := h
 rintro rfl
 rw [hb] at hb2
 injection hb2 with hb2
 injection hb2 with _ ht2
 exact ht ht2.symm
theorem IsB26.far {w0 W : World} {g : Nat} {f0 : Value} {p : Addr} (h : IsB26 w0 W g f0) (hne : g ≠ p.block) (u : Value) : IsB26 w0 (W.setCell p u) g f0 := by
 obtain ⟨hb, hg⟩ := h
 exact ⟨blk_far hb hne u, hg⟩
theorem cellB26_0 {W : World} {g : Nat} {f0 : Value} (h : W.heap[g]? = some (.cells #[f0] 26 (0, 0))) : W.cell? ⟨g, 0, none⟩ = some f0 := (blk_cell h 0).trans rfl
theorem IsB26.cell_0 {w0 W : World} {g : Nat} {f0 : Value} (h : IsB26 w0 W g f0) : W.cell? ⟨g, 0, none⟩ = some f0 := by
 obtain ⟨hb, hg⟩ := h
 exact cellB26_0 hb
theorem IsB26.set_0 {w0 W : World} {g : Nat} {f0 : Value} (h : IsB26 w0 W g f0) (x : Value) : IsB26 w0 (W.setCell ⟨g, 0, none⟩ x) g x := by
 obtain ⟨hb, hg⟩ := h
 exact ⟨by simpa using blk_set hb 0 x, hg⟩
theorem IsB26.new (w0 W : World) (f0 : Value) (hB : Below w0.heap.size w0 W) : IsB26 w0 (W.alloc (.cells #[f0] 26)) W.heap.size f0 := ⟨by simpa using heap_alloc_new W _, hB.size⟩
/-- The variable best, and its row. -/
def BestSt (w0 W : World) (g : Nat) (xs : List (S37)) : Prop := ∃ v : Value, IsB26 w0 W g v ∧ ∀ W', KeepBut W W' g none → Kd.R k37 37 W' w0.heap.size (fun _ => True) v xs
theorem BestSt.lasts {w0 W W' : World} {g : Nat} {xs : List (S37)} (h : BestSt w0 W g xs) (hk : Below W.heap.size W W') : BestSt w0 W' g xs := by
 obtain ⟨v, h1, h2⟩ := h
 exact ⟨v, h1.below hk, fun W2 h3 => h2 W2 ((KeepBut.of_below hk g none).trans h3 (.inl rfl))⟩
theorem row_lasts {W : World} {g base : Nat} {v : Value} {xs : List (S37)} (hR : Kd.R k37 37 W base (fun k => k ≠ g) v xs) : ∀ W', KeepBut W W' g none → Kd.R k37 37 W' base (fun _ => True) v xs :=
 fun W' hk => Kd.R_mono (Kd.R_step hR (w1 := W') (fun k hk' hlt => hk.2 k hlt hk' (by simp))) (fun _ _ => trivial)
theorem BestSt.row {w0 W : World} {g base : Nat} {ok : Nat → Prop} {v : Value} {xs ys : List (S37)} (h : BestSt w0 W g xs) (hr : Kd.R k37 37 W base ok v ys) : ∀ W', KeepBut W W' g none → Kd.R k37 37 W' base (fun _ => True) v ys := by
 obtain ⟨u, h1, _⟩ := h
 exact row_lasts (Kd.R_mono (h1.apart hr (by decide)) (fun _ hk => hk.2))
/-! ### impl_MostConvex_1: function 23 (a contract by hand: the variable's slice as a state) -/
def impl_MostConvex_1.f (k : Nat) (l0 : List (S37)) (s1 : List (S37)) : Option (List (S37)) := (if (l0.length : Int) < (s1.length : Int) then (some s1) else ((impl_areConvex.f k l0).bind fun t1 => (if t1 = true then (if (l0.length : Int) > (s1.length : Int) then (some l0) else ((impl_comparePolygons.f k l0 s1).bind fun t2 => (if t2 < 0 then (some l0) else (some s1)))) else (some s1))))
theorem impl_MostConvex_1.mono : ∀ a0 a1 k, LeO (impl_MostConvex_1.f k a0 a1) (impl_MostConvex_1.f (k + 1) a0 a1) := by
 intro a0 a1 k
 unfold impl_MostConvex_1.f
 repeat' first
   | (with_reducible exact impl_areConvex.mono _ _)
   | (with_reducible exact impl_comparePolygons.mono _ _ _)
   | (with_reducible exact LeO.refl _)
   | (with_reducible exact LeO.none _)
   | (with_reducible refine LeO.ite ?_ ?_)
   | (with_reducible refine LeO.bind ?_ (fun _ => ?_))
set_option maxHeartbeats 8000000 in
set_option maxRecDepth 100000 in
theorem impl_MostConvex_1.calls (k : Nat) (A0 : Option Addr) (c0 : Nat) (l0 : List (S37)) (g : Nat) (v : Value) (s1 r : List (S37)) (w0 w : World) (hI : IsB26 w0 w g v) (hR : ∀ W', KeepBut w W' g none → Kd.R k37 37 W' w0.heap.size (fun _ => True) v s1) (hB : Below w0.heap.size w0 w) (hr0 : ∀ W', KeepBut w W' g none → Kd.R k37 37 W' w0.heap.size (fun _ => True) (.slice A0 l0.length c0) l0) (h : impl_MostConvex_1.f k l0 s1 = some r) :
  Calls Try.prog 23 #[.slice A0 l0.length c0, .pointer (some ⟨g, 0, none⟩)] w fun e w' => e = .returned (.tuple #[]) ∧ BestSt w0 w' g r ∧ Below w0.heap.size w0 w' ∧ KeepBut w w' g none := by
 obtain ⟨Av, cv, rfl⟩ := Kd.R_slice (hR w (KeepBut.refl w g none))
 have HRS := Aside0.mk hr0
 have HRB := Aside0.mk hR
 have HI1 := Aside0.mk hI
 have HK := Aside0.mk (KeepBut.refl w g none)
 have HB := Aside0.mk hB
 have hcz0 := IsB26.cell_0 hI
 have hfz0 := blk_frozen hI.1 0
 clear hr0 hR hI hB
 have H : (if (l0.length : Int) < (s1.length : Int) then (some s1) else ((impl_areConvex.f k l0).bind fun t1 => (if t1 = true then (if (l0.length : Int) > (s1.length : Int) then (some l0) else ((impl_comparePolygons.f k l0 s1).bind fun t2 => (if t2 < 0 then (some l0) else (some s1)))) else (some s1)))) = some r := h
 clear h
 by_cases c3 : (l0.length : Int) < (s1.length : Int)
 ·rw [if_pos c3] at H
  have c3b0 : decide ((l0.length : Int) < (s1.length : Int)) = true := decide_eq_true c3
  have c3b1 : decide (l0.length < s1.length) = true := decide_eq_true (by omega)
  obtain rfl := Option.some.inj H
  clear H c3
  go_enter Try.func23, Try.ntmps23
  go_wp2
  first | go_end0 | ((try simp only [Exit.inBlock, Exit.then]); refine bodyPost_ret (results_none rfl _ _ _) rfl ?_)
  exact ⟨by first | rfl | (simp [errW_none, errW_some] <;> rfl) | (simp [*, errW_none, errW_some] <;> rfl), ⟨_, (by repeat (first | (with_reducible first | exact HI1.out | apply IsB26.alloc | apply IsB26.drewN | apply IsB26.drew) | exact HI1.out)), fun W' hw => HRB.out W' (KeepBut.trans (by repeat (first | (with_reducible first | exact HK.out | apply KeepBut.set_ | apply keep_drewN | apply keep_drew | apply keep_alloc) | exact HK.out)) hw (.inl rfl))⟩, (by repeat (first | (with_reducible first | exact HB.out | apply below_alloc | apply pw_below_drewN | apply below_drew1 | refine below_set ?_ (IsB26.ge HI1.out)) | exact HB.out)), (by repeat (first | (with_reducible first | exact HK.out | apply KeepBut.set_ | apply keep_drewN | apply keep_drew | apply keep_alloc) | exact HK.out))⟩
 ·rw [if_neg c3] at H
  have c3b0 : decide ((l0.length : Int) < (s1.length : Int)) = false := decide_eq_false c3
  have c3b1 : decide (l0.length < s1.length) = false := decide_eq_false (by omega)
  clear c3
  replace H := Option.bind_eq_some_iff.mp H
  obtain ⟨t1, A10, H⟩ := H
  have A1 := Aside0.mk A10
  clear A10
  by_cases c4 : t1 = true
  ·subst c4
   rw [if_pos rfl] at H
   by_cases c5 : (l0.length : Int) > (s1.length : Int)
   ·rw [if_pos c5] at H
    have c5b0 : decide ((s1.length : Int) < (l0.length : Int)) = true := decide_eq_true c5
    have c5b1 : decide (s1.length < l0.length) = true := decide_eq_true (by omega)
    obtain rfl := Option.some.inj H
    clear H c5
    go_enter Try.func23, Try.ntmps23
    go_wp2_with (first | (go_at_call 20; (with_reducible refine (impl_areConvex.calls k _ _ l0 true _ ?side1 ?side2 A1.out).mono ?_); (case side1 => exact (Kd.R_reads' (HRS.out _ (by repeat (first | (with_reducible first | exact HK.out | apply KeepBut.set_ | apply keep_drewN | apply keep_drew | apply keep_alloc) | exact HK.out)))).2.2); (case side2 => exact (Kd.R_reads' (HRS.out _ HK.out)).2.1); rintro e w6 ⟨rfl, hb⟩; have n0_ := Aside0.mk (IsB26.below (by repeat (first | (with_reducible first | exact HI1.out | apply IsB26.alloc | apply IsB26.drewN | apply IsB26.drew) | exact HI1.out)) hb); have n1_ := Aside0.mk (KeepBut.trans (by repeat (first | (with_reducible first | exact HK.out | apply KeepBut.set_ | apply keep_drewN | apply keep_drew | apply keep_alloc) | exact HK.out)) (KeepBut.of_below hb g none) (.inl rfl)); have n2_ := Aside0.mk (below_step (by repeat (first | (with_reducible first | exact HB.out | apply below_alloc | apply pw_below_drewN | apply below_drew1 | refine below_set ?_ (IsB26.ge HI1.out)) | exact HB.out)) hb); clear HI1; clear HK; clear HB; have HI1 := n0_; have HK := n1_; have HB := n2_; clear n0_ n1_ n2_; (try clear hb); have hcz7 := IsB26.cell_0 HI1.out; obtain ⟨HGz7, hgz7⟩ := HI1.out; have hfz7 := blk_frozen HGz7 0; clear HGz7 hgz7))
    first | go_end0 | ((try simp only [Exit.inBlock, Exit.then]); refine bodyPost_ret (results_none rfl _ _ _) rfl ?_)
    exact ⟨by first | rfl | (simp [errW_none, errW_some] <;> rfl) | (simp [*, errW_none, errW_some] <;> rfl), ⟨_, IsB26.set_0 (by repeat (first | (with_reducible first | exact HI1.out | apply IsB26.alloc | apply IsB26.drewN | apply IsB26.drew) | exact HI1.out)) _, fun W' hw => HRS.out W' (KeepBut.trans (by repeat (first | (with_reducible first | exact HK.out | apply KeepBut.set_ | apply keep_drewN | apply keep_drew | apply keep_alloc) | exact HK.out)) hw (.inl rfl))⟩, (by repeat (first | (with_reducible first | exact HB.out | apply below_alloc | apply pw_below_drewN | apply below_drew1 | refine below_set ?_ (IsB26.ge HI1.out)) | exact HB.out)), (by repeat (first | (with_reducible first | exact HK.out | apply KeepBut.set_ | apply keep_drewN | apply keep_drew | apply keep_alloc) | exact HK.out))⟩
   ·rw [if_neg c5] at H
    have c5b0 : decide ((s1.length : Int) < (l0.length : Int)) = false := decide_eq_false c5
    have c5b1 : decide (s1.length < l0.length) = false := decide_eq_false (by omega)
    clear c5
    replace H := Option.bind_eq_some_iff.mp H
    obtain ⟨t2, A20, H⟩ := H
    have A2 := Aside0.mk A20
    clear A20
    by_cases c6 : t2 < 0
    ·rw [if_pos c6] at H
     have c6b0 : decide (t2 < 0) = true := decide_eq_true c6
     obtain rfl := Option.some.inj H
     clear H c6
     go_enter Try.func23, Try.ntmps23
     go_wp2_with (first | (go_at_call 20; (with_reducible refine (impl_areConvex.calls k _ _ l0 true _ ?side1 ?side2 A1.out).mono ?_); (case side1 => exact (Kd.R_reads' (HRS.out _ (by repeat (first | (with_reducible first | exact HK.out | apply KeepBut.set_ | apply keep_drewN | apply keep_drew | apply keep_alloc) | exact HK.out)))).2.2); (case side2 => exact (Kd.R_reads' (HRS.out _ HK.out)).2.1); rintro e w6 ⟨rfl, hb⟩; have n0_ := Aside0.mk (IsB26.below (by repeat (first | (with_reducible first | exact HI1.out | apply IsB26.alloc | apply IsB26.drewN | apply IsB26.drew) | exact HI1.out)) hb); have n1_ := Aside0.mk (KeepBut.trans (by repeat (first | (with_reducible first | exact HK.out | apply KeepBut.set_ | apply keep_drewN | apply keep_drew | apply keep_alloc) | exact HK.out)) (KeepBut.of_below hb g none) (.inl rfl)); have n2_ := Aside0.mk (below_step (by repeat (first | (with_reducible first | exact HB.out | apply below_alloc | apply pw_below_drewN | apply below_drew1 | refine below_set ?_ (IsB26.ge HI1.out)) | exact HB.out)) hb); clear HI1; clear HK; clear HB; have HI1 := n0_; have HK := n1_; have HB := n2_; clear n0_ n1_ n2_; (try clear hb); have hcz7 := IsB26.cell_0 HI1.out; obtain ⟨HGz7, hgz7⟩ := HI1.out; have hfz7 := blk_frozen HGz7 0; clear HGz7 hgz7) | (go_at_call 24; (with_reducible refine (impl_comparePolygons.calls k _ _ l0 _ _ s1 t2 _ ?side1 ?side2 ?side3 ?side4 A2.out).mono ?_); (case side1 => exact (Kd.R_reads' (HRS.out _ (by repeat (first | (with_reducible first | exact HK.out | apply KeepBut.set_ | apply keep_drewN | apply keep_drew | apply keep_alloc) | exact HK.out)))).2.2); (case side2 => exact (Kd.R_reads' (HRS.out _ HK.out)).2.1); (case side3 => exact (Kd.R_reads' (HRB.out _ (by repeat (first | (with_reducible first | exact HK.out | apply KeepBut.set_ | apply keep_drewN | apply keep_drew | apply keep_alloc) | exact HK.out)))).2.2); (case side4 => exact (Kd.R_reads' (HRB.out _ HK.out)).2.1); rintro e w8 ⟨rfl, hb⟩; have n0_ := Aside0.mk (IsB26.below (by repeat (first | (with_reducible first | exact HI1.out | apply IsB26.alloc | apply IsB26.drewN | apply IsB26.drew) | exact HI1.out)) hb); have n1_ := Aside0.mk (KeepBut.trans (by repeat (first | (with_reducible first | exact HK.out | apply KeepBut.set_ | apply keep_drewN | apply keep_drew | apply keep_alloc) | exact HK.out)) (KeepBut.of_below hb g none) (.inl rfl)); have n2_ := Aside0.mk (below_step (by repeat (first | (with_reducible first | exact HB.out | apply below_alloc | apply pw_below_drewN | apply below_drew1 | refine below_set ?_ (IsB26.ge HI1.out)) | exact HB.out)) hb); clear HI1; clear HK; clear HB; have HI1 := n0_; have HK := n1_; have HB := n2_; clear n0_ n1_ n2_; (try clear hb); have hcz9 := IsB26.cell_0 HI1.out; obtain ⟨HGz9, hgz9⟩ := HI1.out; have hfz9 := blk_frozen HGz9 0; clear HGz9 hgz9))
     first | go_end0 | ((try simp only [Exit.inBlock, Exit.then]); refine bodyPost_ret (results_none rfl _ _ _) rfl ?_)
     exact ⟨by first | rfl | (simp [errW_none, errW_some] <;> rfl) | (simp [*, errW_none, errW_some] <;> rfl), ⟨_, IsB26.set_0 (by repeat (first | (with_reducible first | exact HI1.out | apply IsB26.alloc | apply IsB26.drewN | apply IsB26.drew) | exact HI1.out)) _, fun W' hw => HRS.out W' (KeepBut.trans (by repeat (first | (with_reducible first | exact HK.out | apply KeepBut.set_ | apply keep_drewN | apply keep_drew | apply keep_alloc) | exact HK.out)) hw (.inl rfl))⟩, (by repeat (first | (with_reducible first | exact HB.out | apply below_alloc | apply pw_below_drewN | apply below_drew1 | refine below_set ?_ (IsB26.ge HI1.out)) | exact HB.out)), (by repeat (first | (with_reducible first | exact HK.out | apply KeepBut.set_ | apply keep_drewN | apply keep_drew | apply keep_alloc) | exact HK.out))⟩
    ·rw [if_neg c6] at H
     have c6b0 : decide (t2 < 0) = false := decide_eq_false c6
     obtain rfl := Option.some.inj H
     clear H c6
     go_enter Try.func23, Try.ntmps23
     go_wp2_with (first | (go_at_call 20; (with_reducible refine (impl_areConvex.calls k _ _ l0 true _ ?side1 ?side2 A1.out).mono ?_); (case side1 => exact (Kd.R_reads' (HRS.out _ (by repeat (first | (with_reducible first | exact HK.out | apply KeepBut.set_ | apply keep_drewN | apply keep_drew | apply keep_alloc) | exact HK.out)))).2.2); (case side2 => exact (Kd.R_reads' (HRS.out _ HK.out)).2.1); rintro e w6 ⟨rfl, hb⟩; have n0_ := Aside0.mk (IsB26.below (by repeat (first | (with_reducible first | exact HI1.out | apply IsB26.alloc | apply IsB26.drewN | apply IsB26.drew) | exact HI1.out)) hb); have n1_ := Aside0.mk (KeepBut.trans (by repeat (first | (with_reducible first | exact HK.out | apply KeepBut.set_ | apply keep_drewN | apply keep_drew | apply keep_alloc) | exact HK.out)) (KeepBut.of_below hb g none) (.inl rfl)); have n2_ := Aside0.mk (below_step (by repeat (first | (with_reducible first | exact HB.out | apply below_alloc | apply pw_below_drewN | apply below_drew1 | refine below_set ?_ (IsB26.ge HI1.out)) | exact HB.out)) hb); clear HI1; clear HK; clear HB; have HI1 := n0_; have HK := n1_; have HB := n2_; clear n0_ n1_ n2_; (try clear hb); have hcz7 := IsB26.cell_0 HI1.out; obtain ⟨HGz7, hgz7⟩ := HI1.out; have hfz7 := blk_frozen HGz7 0; clear HGz7 hgz7) | (go_at_call 24; (with_reducible refine (impl_comparePolygons.calls k _ _ l0 _ _ s1 t2 _ ?side1 ?side2 ?side3 ?side4 A2.out).mono ?_); (case side1 => exact (Kd.R_reads' (HRS.out _ (by repeat (first | (with_reducible first | exact HK.out | apply KeepBut.set_ | apply keep_drewN | apply keep_drew | apply keep_alloc) | exact HK.out)))).2.2); (case side2 => exact (Kd.R_reads' (HRS.out _ HK.out)).2.1); (case side3 => exact (Kd.R_reads' (HRB.out _ (by repeat (first | (with_reducible first | exact HK.out | apply KeepBut.set_ | apply keep_drewN | apply keep_drew | apply keep_alloc) | exact HK.out)))).2.2); (case side4 => exact (Kd.R_reads' (HRB.out _ HK.out)).2.1); rintro e w8 ⟨rfl, hb⟩; have n0_ := Aside0.mk (IsB26.below (by repeat (first | (with_reducible first | exact HI1.out | apply IsB26.alloc | apply IsB26.drewN | apply IsB26.drew) | exact HI1.out)) hb); have n1_ := Aside0.mk (KeepBut.trans (by repeat (first | (with_reducible first | exact HK.out | apply KeepBut.set_ | apply keep_drewN | apply keep_drew | apply keep_alloc) | exact HK.out)) (KeepBut.of_below hb g none) (.inl rfl)); have n2_ := Aside0.mk (below_step (by repeat (first | (with_reducible first | exact HB.out | apply below_alloc | apply pw_below_drewN | apply below_drew1 | refine below_set ?_ (IsB26.ge HI1.out)) | exact HB.out)) hb); clear HI1; clear HK; clear HB; have HI1 := n0_; have HK := n1_; have HB := n2_; clear n0_ n1_ n2_; (try clear hb); have hcz9 := IsB26.cell_0 HI1.out; obtain ⟨HGz9, hgz9⟩ := HI1.out; have hfz9 := blk_frozen HGz9 0; clear HGz9 hgz9))
     first | go_end0 | ((try simp only [Exit.inBlock, Exit.then]); refine bodyPost_ret (results_none rfl _ _ _) rfl ?_)
     exact ⟨by first | rfl | (simp [errW_none, errW_some] <;> rfl) | (simp [*, errW_none, errW_some] <;> rfl), ⟨_, (by repeat (first | (with_reducible first | exact HI1.out | apply IsB26.alloc | apply IsB26.drewN | apply IsB26.drew) | exact HI1.out)), fun W' hw => HRB.out W' (KeepBut.trans (by repeat (first | (with_reducible first | exact HK.out | apply KeepBut.set_ | apply keep_drewN | apply keep_drew | apply keep_alloc) | exact HK.out)) hw (.inl rfl))⟩, (by repeat (first | (with_reducible first | exact HB.out | apply below_alloc | apply pw_below_drewN | apply below_drew1 | refine below_set ?_ (IsB26.ge HI1.out)) | exact HB.out)), (by repeat (first | (with_reducible first | exact HK.out | apply KeepBut.set_ | apply keep_drewN | apply keep_drew | apply keep_alloc) | exact HK.out))⟩
  ·replace c4 := Bool.eq_false_iff.mpr c4
   subst c4
   rw [if_neg (by decide)] at H
   obtain rfl := Option.some.inj H
   clear H
   go_enter Try.func23, Try.ntmps23
   go_wp2_with (first | (go_at_call 20; (with_reducible refine (impl_areConvex.calls k _ _ l0 false _ ?side1 ?side2 A1.out).mono ?_); (case side1 => exact (Kd.R_reads' (HRS.out _ (by repeat (first | (with_reducible first | exact HK.out | apply KeepBut.set_ | apply keep_drewN | apply keep_drew | apply keep_alloc) | exact HK.out)))).2.2); (case side2 => exact (Kd.R_reads' (HRS.out _ HK.out)).2.1); rintro e w6 ⟨rfl, hb⟩; have n0_ := Aside0.mk (IsB26.below (by repeat (first | (with_reducible first | exact HI1.out | apply IsB26.alloc | apply IsB26.drewN | apply IsB26.drew) | exact HI1.out)) hb); have n1_ := Aside0.mk (KeepBut.trans (by repeat (first | (with_reducible first | exact HK.out | apply KeepBut.set_ | apply keep_drewN | apply keep_drew | apply keep_alloc) | exact HK.out)) (KeepBut.of_below hb g none) (.inl rfl)); have n2_ := Aside0.mk (below_step (by repeat (first | (with_reducible first | exact HB.out | apply below_alloc | apply pw_below_drewN | apply below_drew1 | refine below_set ?_ (IsB26.ge HI1.out)) | exact HB.out)) hb); clear HI1; clear HK; clear HB; have HI1 := n0_; have HK := n1_; have HB := n2_; clear n0_ n1_ n2_; (try clear hb); have hcz7 := IsB26.cell_0 HI1.out; obtain ⟨HGz7, hgz7⟩ := HI1.out; have hfz7 := blk_frozen HGz7 0; clear HGz7 hgz7))
   first | go_end0 | ((try simp only [Exit.inBlock, Exit.then]); refine bodyPost_ret (results_none rfl _ _ _) rfl ?_)
   exact ⟨by first | rfl | (simp [errW_none, errW_some] <;> rfl) | (simp [*, errW_none, errW_some] <;> rfl), ⟨_, (by repeat (first | (with_reducible first | exact HI1.out | apply IsB26.alloc | apply IsB26.drewN | apply IsB26.drew) | exact HI1.out)), fun W' hw => HRB.out W' (KeepBut.trans (by repeat (first | (with_reducible first | exact HK.out | apply KeepBut.set_ | apply keep_drewN | apply keep_drew | apply keep_alloc) | exact HK.out)) hw (.inl rfl))⟩, (by repeat (first | (with_reducible first | exact HB.out | apply below_alloc | apply pw_below_drewN | apply below_drew1 | refine below_set ?_ (IsB26.ge HI1.out)) | exact HB.out)), (by repeat (first | (with_reducible first | exact HK.out | apply KeepBut.set_ | apply keep_drewN | apply keep_drew | apply keep_alloc) | exact HK.out))⟩
/-! ### impl_sets: function 18 -/
mutual
def impl_sets.l0 : Nat → List (S37) → Int → List (S37) → Option (List (S37))
 | 0, _, _, _ => none
 | k + 1, x0, x4, x2000 => if x4 < (shl .i64 1 (x0.length : Int)) then (impl_sets.l1 k x0 x4 (([] : List (S37))) x0 (x0.length : Int) 0 x2000) else (some x2000)
def impl_sets.l1 : Nat → List (S37) → Int → List (S37) → List (S37) → Int → Int → List (S37) → Option (List (S37))
 | 0, _, _, _, _, _, _, _ => none
 | k + 1, x0, x4, x5, x16, x17, x18, x2000 => if x18 < x17 then (if 0 ≤ x18 then (if x18 < (x16.length : Int) then (if (Go.bits .and .i64 (shr .i64 x4 x18) 1) = 1 then (if x5.length < 8796093022208 then (impl_sets.l1 k x0 x4 (x5 ++ [(⟨(rd_T37 x16 x18).f0, (rd_T37 x16 x18).f1⟩ : S37)]) x16 x17 (wrap64 (x18 + 1)) x2000) else (none)) else (impl_sets.l1 k x0 x4 x5 x16 x17 (wrap64 (x18 + 1)) x2000)) else (none)) else (none)) else ((impl_MostConvex_1.f k x5 x2000).bind fun t309 => (impl_sets.l0 k x0 (wrap64 (x4 + 1)) t309))
end
def impl_sets.f (k : Nat) (l0 : List (S37)) (s1_0 : List (S37)) : Option (List (S37)) := impl_sets.l0 k l0 1 s1_0
theorem impl_sets.mono_l : ∀ k, (∀ y0 y1 y2, LeO (impl_sets.l0 k y0 y1 y2) (impl_sets.l0 (k + 1) y0 y1 y2)) ∧ (∀ y0 y1 y2 y3 y4 y5 y6, LeO (impl_sets.l1 k y0 y1 y2 y3 y4 y5 y6) (impl_sets.l1 (k + 1) y0 y1 y2 y3 y4 y5 y6))
 | 0 => ⟨fun _ _ _ r h => by simp [impl_sets.l0] at h, fun _ _ _ _ _ _ _ r h => by simp [impl_sets.l1] at h⟩
 | k + 1 => by
  obtain ⟨ih0, ih1⟩ := impl_sets.mono_l k
  refine ⟨?_, ?_⟩
  ·intro y0 y1 y2
   unfold impl_sets.l0
   repeat' first
   | (with_reducible exact ih0 _ _ _)
   | (with_reducible exact ih1 _ _ _ _ _ _ _)
   | (with_reducible exact impl_MostConvex_1.mono _ _ _)
   | (with_reducible exact LeO.refl _)
   | (with_reducible exact LeO.none _)
   | (with_reducible refine LeO.ite ?_ ?_)
   | (with_reducible refine LeO.bind ?_ (fun _ => ?_))
   | exact ih0 _ _ _
   | exact ih1 _ _ _ _ _ _ _
   | exact impl_MostConvex_1.mono _ _ _
   | exact LeO.none _
   | refine LeO.ite ?_ ?_
   | refine LeO.bind ?_ (fun _ => ?_)
  ·intro y0 y1 y2 y3 y4 y5 y6
   unfold impl_sets.l1
   repeat' first
   | (with_reducible exact ih0 _ _ _)
   | (with_reducible exact ih1 _ _ _ _ _ _ _)
   | (with_reducible exact impl_MostConvex_1.mono _ _ _)
   | (with_reducible exact LeO.refl _)
   | (with_reducible exact LeO.none _)
   | (with_reducible refine LeO.ite ?_ ?_)
   | (with_reducible refine LeO.bind ?_ (fun _ => ?_))
   | exact ih0 _ _ _
   | exact ih1 _ _ _ _ _ _ _
   | exact impl_MostConvex_1.mono _ _ _
   | exact LeO.none _
   | refine LeO.ite ?_ ?_
   | refine LeO.bind ?_ (fun _ => ?_)
theorem impl_sets.mono : ∀ a0 a1 k, LeO (impl_sets.f k a0 a1) (impl_sets.f (k + 1) a0 a1) := by
 intro a0 a1 k
 obtain ⟨ih0, ih1⟩ := impl_sets.mono_l k
 unfold impl_sets.f
 repeat' first
   | (with_reducible exact ih0 _ _ _)
   | (with_reducible exact ih1 _ _ _ _ _ _ _)
   | (with_reducible exact impl_MostConvex_1.mono _ _ _)
   | (with_reducible exact LeO.refl _)
   | (with_reducible exact LeO.none _)
   | (with_reducible refine LeO.ite ?_ ?_)
   | (with_reducible refine LeO.bind ?_ (fun _ => ?_))
   | exact ih0 _ _ _
   | exact ih1 _ _ _ _ _ _ _
   | exact impl_MostConvex_1.mono _ _ _
   | exact LeO.none _
   | refine LeO.ite ?_ ?_
   | refine LeO.bind ?_ (fun _ => ?_)
set_option maxHeartbeats 8000000 in
set_option maxRecDepth 100000 in
theorem impl_sets.calls (k : Nat) (A0 : Option Addr) (c0 : Nat) (l0 : List (S37)) (g : Nat) (s1_0 : List (S37)) (r : List (S37)) (w0 w : World) (hI : BestSt w0 w g s1_0) (hB : Below w0.heap.size w0 w) (hr0 : ∀ W_, KeepBut w W_ g none → Kd.C k37 W_ A0 l0.length l0) (hc0 : l0.length ≤ c0) (h : impl_sets.f k l0 s1_0 = some r) :
  Calls Try.prog 18 #[.slice A0 l0.length c0, .func (.func 23) #[] #[.pointer (some ⟨g, 0, none⟩)]] w fun e w' => e = .returned (.tuple #[]) ∧ BestSt w0 w' g r ∧ Below w0.heap.size w0 w' ∧ KeepBut w w' g none := by
 have hu37 := Try.underlying37
 have HR0 := Aside0.mk hr0
 have HC0 := Aside0.mk hc0
 clear hr0 hc0
 have HI1 := Aside0.mk hI
 have HK := Aside0.mk (KeepBut.refl w g none)
 have HL := Aside0.mk hB.size
 clear hI
 have HW0 := Aside0.mk hB.size
 have HB := Aside0.mk hB
 clear hB
 have H : (impl_sets.l0 k l0 1 s1_0) = some r := h
 clear h
 have H' := Aside0.mk H
 clear H
 go_enter Try.func18, Try.ntmps18
 go_wp2
 go_loopg [4] k (fun kq v4 w' => ∃ (x4_1 : Int) (x2000_1 : List (S37)), v4 = .int .i64 x4_1 ∧ Aside0 (impl_sets.l0 kq l0 x4_1 x2000_1 = some r) ∧ Aside0 (kq ≤ k) ∧ Aside0 (BestSt w0 w' g x2000_1) ∧ Aside0 (KeepBut w w' g none) ∧ Aside0 (Below w0.heap.size w0 w'))
 case atStart => exact ⟨(1), (s1_0), (by first | rfl | (simp; done) | (simp [*]; done)), H', ⟨Nat.le_refl _⟩, HI1, HK, HB⟩
 case round =>
  clear H'
  try clear c1
  try clear p2
  obtain ⟨x4_1, x2000_1, rfl, HA, HK1, HST, HKo, HB⟩ := hrel
  obtain ⟨wo, hwo⟩ : ∃ wo : World, wo = wr := ⟨wr, rfl⟩
  obtain ⟨vb, hib, hrb⟩ := HST.out
  have HI1 := Aside0.mk hib
  have HRB : Aside0 (∀ W', KeepBut wo W' g none → Kd.R k37 37 W' w0.heap.size (fun _ => True) vb x2000_1) := ⟨by rw [hwo]; exact hrb⟩
  have HR0' : Aside0 (∀ W_, KeepBut wo W_ g none → Kd.C k37 W_ A0 l0.length l0) := ⟨by rw [hwo]; exact fun W_ hw => HR0.out W_ (HKo.out.trans hw (.inl rfl))⟩
  have HW0' : Aside0 (w0.heap.size ≤ wo.heap.size) := ⟨by rw [hwo]; exact Nat.le_trans HW0.out HKo.out.1⟩
  have HKo' : Aside0 (KeepBut w wo g none) := ⟨by rw [hwo]; exact HKo.out⟩
  have HL' := HW0'
  clear HR0 HW0 HL HKo hib hrb
  have HR0 := HR0'
  have HW0 := HW0'
  have HL := HL'
  have HKo := HKo'
  clear HR0' HW0' HL' HKo'
  have HK : Aside0 (KeepBut wo wr g none) := ⟨by rw [hwo]; exact KeepBut.refl _ _ _⟩
  clear hwo
  cases gk with
  | zero => exact absurd HA.out (by simp [impl_sets.l0])
  | succ k1 =>
   have H := HA.out
   clear HA
   simp only [impl_sets.l0] at H
   obtain ⟨ji3, hji3⟩ : ∃ j_ : Int, (shl .i64 1 (l0.length : Int)) = j_ := ⟨_, rfl⟩
   replace H : (if x4_1 < (ji3) then (impl_sets.l1 k1 l0 x4_1 (([] : List (S37))) l0 (l0.length : Int) 0 x2000_1) else (some x2000_1)) = some r := by first | (rw [hji3] at H; exact H) | (simp only [hji3] at H ⊢; exact H)
   have hji3_ : (IntKind.i64.wrap (1 * 2 ^ min (l0.length : Int).toNat 64)) = ji3 := hji3
   have hji3z : (l0.length : Int) ≤ 64 → (IntKind.i64.wrap (1 * 2 ^ (l0.length : Int).toNat)) = ji3 := shl_small hji3
   have hji3p : (IntKind.i64.wrap (1 * 2 ^ min l0.length 64)) = ji3 := hji3_
   have hji3q : (l0.length : Int) ≤ 64 → (IntKind.i64.wrap (1 * 2 ^ l0.length)) = ji3 := hji3z
   have hji3r : (IntKind.i64.wrap (2 ^ min l0.length 64)) = ji3 := by have h_ := hji3p; rw [Int.one_mul] at h_; exact h_
   have hji3s : (l0.length : Int) ≤ 64 → (IntKind.i64.wrap (2 ^ l0.length)) = ji3 := fun hle_ => by have h_ := hji3q hle_; rw [Int.one_mul] at h_; exact h_
   have hji3u : (IntKind.i64.wrap (2 ^ min (l0.length : Int).toNat 64)) = ji3 := by have h_ := hji3_; rw [Int.one_mul] at h_; exact h_
   have hji3v : (l0.length : Int) ≤ 64 → (IntKind.i64.wrap (2 ^ (l0.length : Int).toNat)) = ji3 := fun hle_ => by have h_ := hji3z hle_; rw [Int.one_mul] at h_; exact h_
   have hji3y : (wrap64 (1 * 2 ^ min (l0.length : Int).toNat 64)) = ji3 := (i64_w _).symm.trans hji3_
   have hji3x : (l0.length : Int) ≤ 64 → (wrap64 (1 * 2 ^ (l0.length : Int).toNat)) = ji3 := fun h_ => (i64_w _).symm.trans (hji3z h_)
   by_cases c4 : x4_1 < (ji3)
   ·rw [if_pos c4] at H
    have c4b0 : decide (x4_1 < (ji3)) = true := decide_eq_true c4
    clear c4
    obtain ⟨y301, hy301⟩ : ∃ y_ : List (S37), y_ = (([] : List (S37))) := ⟨_, rfl⟩
    replace H : (impl_sets.l1 k1 l0 x4_1 y301 l0 (l0.length : Int) 0 x2000_1) = some r := by first | (rw [hy301]; with_reducible exact H) | (have H2_ := (Option.bind_some _ _).symm.trans H; rw [hy301]; with_reducible exact H2_) | (have H2_ := (Option.bind_some _ _).symm.trans H; with_reducible exact H2_) | with_reducible exact H | (rw [hy301]; exact H) | exact H
    have Ny301 := Aside0.mk hy301
    clear hy301
    have H' := Aside0.mk H
    clear H
    go_wp2_with (first | ((with_reducible refine gate_dst (N := 15) rfl ?_); refine Kd.R_lit k37 _ 37 ?hg (N := 15) ?hd (xs := ([] : List (S37))) (inner := []) (ok := fun _ => True) (okp := fun _ => True) ?hr ?hp (fun _ hk => hk) trivial (Below.refl _ _) (Nat.le_refl _) (by simp) ?_; (case hd => rfl); (case hg => rfl); (case hr => first | (go_simp; done) | (go_simp; rfl)); (case hp => exact (Reps.none _ _)); intro v302 w5 ho6 hb hg_ hnew_; clear hg_ hnew_; (first | rw [← Ny301.out] at ho6 | (simp only [Int.reduceToNat] at ho6; rw [← Ny301.out] at ho6)); have n0_ := Aside0.mk (Kd.R_lower ho6 (keep_size (w := wo) (g := g) (row := none) (by repeat (first | (with_reducible first | exact HK.out | apply KeepBut.set_ | apply keep_drewN | apply keep_drew | apply keep_alloc) | exact HK.out)))); have n1_ := Aside0.mk (IsB26.below (by repeat (first | (with_reducible first | exact HI1.out | apply IsB26.alloc | apply IsB26.drewN | apply IsB26.drew ) | exact HI1.out)) hb); have n2_ := Aside0.mk (KeepBut.trans (by repeat (first | (with_reducible first | exact HK.out | apply KeepBut.set_ | apply keep_drewN | apply keep_drew | apply keep_alloc) | exact HK.out)) (KeepBut.of_below hb g none) (.inl rfl)); have n3_ := Aside0.mk (below_step (by repeat (first | (with_reducible first | exact HB.out | apply below_alloc | apply pw_below_drewN | apply below_drew1 | refine below_set ?_ (IsB26.ge HI1.out)) | exact HB.out)) hb); clear HI1; clear HK; clear HB; have HO303 := n0_; have HI1 := n1_; have HK := n2_; have HB := n3_; clear n0_ n1_ n2_ n3_; clear hb ho6))
    go_loopg [5, 18] k1 (fun kq v5 v18 w' => ∃ (x5_2 : List (S37)) (x18_2 : Int), v18 = .int .i64 x18_2 ∧ Aside0 (impl_sets.l1 kq l0 x4_1 x5_2 l0 (l0.length : Int) x18_2 x2000_1 = some r) ∧ Aside0 (kq ≤ k1) ∧ Aside0 (Kd.R k37 37 w' wo.heap.size (fun _ => True) v5 x5_2) ∧ Aside0 (IsB26 w0 w' g vb) ∧ Aside0 (KeepBut wo w' g none) ∧ Aside0 (Below w0.heap.size w0 w'))
    case atStart => exact ⟨(y301), (0), (by first | rfl | (simp; done) | (simp [*]; done)), H', ⟨Nat.le_refl _⟩, ⟨rk_ HO303.out⟩, ⟨by repeat (first | (with_reducible first | exact HI1.out | apply IsB26.alloc | apply IsB26.drewN | apply IsB26.drew ) | exact HI1.out)⟩, ⟨by repeat (first | (with_reducible first | exact HK.out | apply KeepBut.set_ | apply keep_drewN | apply keep_drew | apply keep_alloc) | exact HK.out)⟩, ⟨by repeat (first | (with_reducible first | exact HB.out | apply below_alloc | apply pw_below_drewN | apply below_drew1 | refine below_set ?_ (IsB26.ge HI1.out)) | exact HB.out)⟩⟩
    case round =>
     clear H'
     try clear c1
     try clear p2
     try clear c4
     try clear c4b0
     try clear p6
     try clear p2
     obtain ⟨x5_2, x18_2, rfl, HA, HK2, HO_5, HI1, HK, HB⟩ := hrel
     cases gk with
     | zero => exact absurd HA.out (by simp [impl_sets.l1])
     | succ k2 =>
      have H := HA.out
      clear HA
      simp only [impl_sets.l1] at H
      by_cases c7 : x18_2 < (l0.length : Int)
      ·rw [if_pos c7] at H
       have c7b0 : decide (x18_2 < (l0.length : Int)) = true := decide_eq_true c7
       clear c7
       by_cases c8 : 0 ≤ x18_2
       ·rw [if_pos c8] at H
        have c8b0 : decide (0 ≤ x18_2) = true := decide_eq_true c8
        clear c8
        by_cases c9 : x18_2 < (l0.length : Int)
        ·rw [if_pos c9] at H
         have c9b0 : decide (x18_2 < (l0.length : Int)) = true := decide_eq_true c9
         clear c9
         have c10b0 := eq_true (odt_ : 0 ≤ x18_2)
         obtain ⟨ji11, hji11⟩ : ∃ j_ : Int, (shr .i64 x4_1 x18_2) = j_ := ⟨_, rfl⟩
         replace H : (if (Go.bits .and .i64 (ji11) 1) = 1 then (if x5_2.length < 8796093022208 then (impl_sets.l1 k2 l0 x4_1 (x5_2 ++ [(⟨(rd_T37 l0 x18_2).f0, (rd_T37 l0 x18_2).f1⟩ : S37)]) l0 (l0.length : Int) (wrap64 (x18_2 + 1)) x2000_1) else (none)) else (impl_sets.l1 k2 l0 x4_1 x5_2 l0 (l0.length : Int) (wrap64 (x18_2 + 1)) x2000_1)) = some r := by first | (rw [hji11] at H; exact H) | (simp only [hji11] at H ⊢; exact H)
         have hji11_ : (x4_1 / 2 ^ min x18_2.toNat 64) = ji11 := hji11
         have hji11z : x18_2 ≤ 64 → (x4_1 / 2 ^ x18_2.toNat) = ji11 := shr_small hji11
         by_cases c12 : (Go.bits .and .i64 (ji11) 1) = 1
         ·rw [if_pos c12] at H
          have c12b0 : ((Go.bits .and .i64 (ji11) 1) == 1) = true := beq_iff_eq.mpr c12
          have c12b1 : ((Go.bits .and .i64 (ji11) 1) != 1) = false := bne_eq_false_iff_eq.mpr c12
          clear c12
          by_cases c13 : x5_2.length < 8796093022208
          ·rw [if_pos c13] at H
           have LMc13 := Aside0.mk c13
           clear c13
           obtain ⟨y306, hy306⟩ : ∃ y_ : List (S37), y_ = (x5_2 ++ [(⟨(rd_T37 l0 x18_2).f0, (rd_T37 l0 x18_2).f1⟩ : S37)]) := ⟨_, rfl⟩
           replace H : (impl_sets.l1 k2 l0 x4_1 y306 l0 (l0.length : Int) (wrap64 (x18_2 + 1)) x2000_1) = some r := by first | (rw [hy306]; with_reducible exact H) | (have H2_ := (Option.bind_some _ _).symm.trans H; rw [hy306]; with_reducible exact H2_) | (have H2_ := (Option.bind_some _ _).symm.trans H; with_reducible exact H2_) | with_reducible exact H | (rw [hy306]; exact H) | exact H
           have Ny306 := Aside0.mk hy306
           clear hy306
           have H' := Aside0.mk H
           clear H
           have p304 : 0 ≤ (x18_2 : Int) := odt_
           have q304 : x18_2 < (l0.length : Int) := odt_
           obtain ⟨ad304, e304, hx304_0, hx304_1⟩ := at_T37 (Kd.C_foot_now HR0.out HK.out) x18_2 p304 q304
           cases e304
           replace p304 := eq_true p304
           replace q304 := eq_true q304
           go_wp2_with (first | ((with_reducible refine gate_dst (N := 7) rfl ?_); refine box_event ?hg (N := 7) ?hd (cs := #[.int .i64 0, .int .i64 0]) (t := 37) ?hr ?_; (case hd => rfl); (case hg => rfl); (case hr => first | (go_simp; done) | (go_simp; rfl)); intro gb305 hg w14 hbox hb; have n0_ := Aside0.mk (Kd.R_below (Kd.R_elderB (rk_ HO_5.out) gb305 (Nat.le_of_eq hg.symm)) hb); have n1_ := Aside0.mk (IsB26.below (by repeat (first | (with_reducible first | exact HI1.out | apply IsB26.alloc | apply IsB26.drewN | apply IsB26.drew ) | exact HI1.out)) hb); have n2_ := Aside0.mk (KeepBut.trans (by repeat (first | (with_reducible first | exact HK.out | apply KeepBut.set_ | apply keep_drewN | apply keep_drew | apply keep_alloc) | exact HK.out)) (KeepBut.of_below hb g none) (.inl rfl)); have n3_ := Aside0.mk (below_step (by repeat (first | (with_reducible first | exact HB.out | apply below_alloc | apply pw_below_drewN | apply below_drew1 | refine below_set ?_ (IsB26.ge HI1.out)) | exact HB.out)) hb); have n4_ := Aside0.mk (hbox); have n5_ := Aside0.mk ((by rw [hg]; exact (keep_size (w := wo) (g := g) (row := none) (by repeat (first | (with_reducible first | exact HK.out | apply KeepBut.set_ | apply keep_drewN | apply keep_drew | apply keep_alloc) | exact HK.out))) : wo.heap.size ≤ gb305)); have n6_ := Aside0.mk ((Nat.le_trans HW0.out (by rw [hg]; exact (keep_size (w := wo) (g := g) (row := none) (by repeat (first | (with_reducible first | exact HK.out | apply KeepBut.set_ | apply keep_drewN | apply keep_drew | apply keep_alloc) | exact HK.out))) : wo.heap.size ≤ gb305) : w0.heap.size ≤ gb305)); have n7_ := Aside0.mk ((by rw [hg]; exact Nat.ne_of_lt (IsB26.lt (show IsB26 w0 _ g vb from by repeat (first | (with_reducible first | exact HI1.out | apply IsB26.alloc | apply IsB26.drewN | apply IsB26.drew ) | exact HI1.out))) : g ≠ gb305)); have n8_ := Aside0.mk ((by rw [hg]; exact Nat.ne_of_gt (IsB26.lt (show IsB26 w0 _ g vb from by repeat (first | (with_reducible first | exact HI1.out | apply IsB26.alloc | apply IsB26.drewN | apply IsB26.drew ) | exact HI1.out))) : gb305 ≠ g)); clear HO_5; clear HI1; clear HK; clear HB; have HO_5 := n0_; have HI1 := n1_; have HK := n2_; have HB := n3_; have BK305 := n4_; have GW305 := n5_; have GE305 := n6_; have NB1_305 := n7_; have NB305_1 := n8_; clear n0_ n1_ n2_ n3_ n4_ n5_ n6_ n7_ n8_; clear hb hbox hg; have hnb15 := NB305_1.out; have hnc15 := NB1_305.out; have hcz16_0 : w14.cell? ⟨gb305, 0, none⟩ = some (.int .i64 0) := (blk_cell BK305.out 0).trans rfl; have hcz16_1 : w14.cell? ⟨gb305, 1, none⟩ = some (.int .i64 0) := (blk_cell BK305.out 1).trans rfl; have hfz16_0 := blk_frozen BK305.out 0; have hfz16_1 := blk_frozen BK305.out 1) | ((with_reducible refine gate_builtin (b := .append) (xs := #[.tmp 28, .tmp 30]) rfl ?_); at_builtin; refine Kd.R_append k37 wo.heap.size rfl (.tmp 28) (.tmp 30) 26 37 (.agg #[(.int .i64 0), (.int .i64 0)]) 16 rfl Try.underlying26 info37 rfl (by decide) (by omega) u5 x5_2 (⟨(rd_T37 l0 x18_2).f0, (rd_T37 l0 x18_2).f1⟩ : S37) [.int .i64 ((rd_T37 l0 x18_2).f0), .int .i64 ((rd_T37 l0 x18_2).f1)] (fun k_ => k_ ≠ gb305) (fun _ => False) rfl (by first | (go_simp; done) | (go_simp; rfl)) ?aP (fun _ hk => hk.elim) ?aF ?aO (Below.refl _ _) ?aS ?aL ?_; (case aP => exact k37_mkM _ _ _ (⟨(rd_T37 l0 x18_2).f0, (rd_T37 l0 x18_2).f1⟩ : S37)); (case aF => exact (fun k_ hk => Kd.freshB (g := gb305) (o := .cells #[.int .i64 ((rd_T37 l0 x18_2).f0), .int .i64 ((rd_T37 l0 x18_2).f1)] 37 (0, 0)) (by (with_reducible repeat (first | refine blk_drewN ?_ _ | refine blk_drew ?_ | refine blk_alloc ?_ _)); refine blk_put (cs := #[.int .i64 ((rd_T37 l0 x18_2).f0), .int .i64 0]) ?_ 1 _ rfl; (with_reducible repeat (first | refine blk_drewN ?_ _ | refine blk_drew ?_ | refine blk_alloc ?_ _)); refine blk_put (cs := #[.int .i64 0, .int .i64 0]) ?_ 0 _ rfl; (with_reducible repeat (first | refine blk_drewN ?_ _ | refine blk_drew ?_ | refine blk_alloc ?_ _)); exact BK305.out) k_ hk)); (case aO => exact (by (with_reducible repeat (first | apply Kd.R_alloc | apply Kd.R_drewN | apply Kd.R_drew)); exact Kd.R_mono (Kd.R_far (p := ⟨gb305, 1, none⟩) (Kd.R_far (p := ⟨gb305, 0, none⟩) (Kd.R_mono HO_5.out (fun k_ hk => (⟨hk, hk.2⟩ : _ ∧ k_ ≠ gb305))) (fun _ hk => hk.2) (.int .i64 ((rd_T37 l0 x18_2).f0))) (fun _ hk => hk.2) (.int .i64 ((rd_T37 l0 x18_2).f1))) (fun _ hk => hk.1.2))); (case aS => exact (keep_size (w := wo) (g := g) (row := none) (by repeat (first | (with_reducible first | exact HK.out | apply KeepBut.set_ | apply keep_drewN | apply keep_drew | apply keep_alloc | refine keep_far ?_ GW305.out _) | exact HK.out)))); (case aL => have := LMc13.out; omega); intro v307 w17 ho hb hg hat; rw [← Ny306.out] at ho; have n0_ := Aside0.mk (IsB26.grown (show IsB26 w0 _ g vb from by repeat (first | (with_reducible first | exact HI1.out | apply IsB26.alloc | apply IsB26.drewN | apply IsB26.drew  | refine IsB26.far ?_ NB1_305.out _) | exact HI1.out)) hg (IsB26.own_ne HI1.out HO_5.out (by decide))); have n1_ := Aside0.mk (blk_grown (g := gb305) (o := .cells #[.int .i64 ((rd_T37 l0 x18_2).f0), .int .i64 ((rd_T37 l0 x18_2).f1)] 37 (0, 0)) (by (with_reducible repeat (first | refine blk_drewN ?_ _ | refine blk_drew ?_ | refine blk_alloc ?_ _)); refine blk_put (cs := #[.int .i64 ((rd_T37 l0 x18_2).f0), .int .i64 0]) ?_ 1 _ rfl; (with_reducible repeat (first | refine blk_drewN ?_ _ | refine blk_drew ?_ | refine blk_alloc ?_ _)); refine blk_put (cs := #[.int .i64 0, .int .i64 0]) ?_ 0 _ rfl; (with_reducible repeat (first | refine blk_drewN ?_ _ | refine blk_drew ?_ | refine blk_alloc ?_ _)); exact BK305.out) hg (Kd.R_away HO_5.out (fun _ hk => hk.2))); have n2_ := Aside0.mk (below_weaken (by repeat (first | (with_reducible first | exact HB.out | apply below_alloc | apply pw_below_drewN | apply below_drew1 | refine below_set ?_ (IsB26.ge HI1.out) | refine below_set ?_ GE305.out) | exact HB.out)) HL.out hb); have n3_ := Aside0.mk (KeepBut.trans (by repeat (first | (with_reducible first | exact HK.out | apply KeepBut.set_ | apply keep_drewN | apply keep_drew | apply keep_alloc | refine keep_far ?_ GW305.out _) | exact HK.out)) (KeepBut.of_grown hg g) (Kd.R_base2 HO_5.out)); have n4_ := Aside0.mk (ho); clear HI1; clear BK305; clear HB; clear HK; clear HO_5; have HI1 := n0_; have BK305 := n1_; have HB := n2_; have HK := n3_; have HO308 := n4_; clear n0_ n1_ n2_ n3_ n4_; clear ho hb hg hat))
           go_roundg k2
           case measure => have := HK1.out; have := HK2.out; omega
           case rel => exact ⟨(y306), (wrap64 (x18_2 + 1)), (by first | rfl | (simp; done) | (simp [*]; done)), H', ⟨by have := HK1.out; have := HK2.out; omega⟩, ⟨by (with_reducible repeat (first | apply Kd.R_alloc | apply Kd.R_drewN | apply Kd.R_drew)); exact Kd.R_mono HO308.out (fun _ hk => trivial)⟩, ⟨by repeat (first | (with_reducible first | exact HI1.out | apply IsB26.alloc | apply IsB26.drewN | apply IsB26.drew  | refine IsB26.far ?_ NB1_305.out _) | exact HI1.out)⟩, ⟨by repeat (first | (with_reducible first | exact HK.out | apply KeepBut.set_ | apply keep_drewN | apply keep_drew | apply keep_alloc | refine keep_far ?_ GW305.out _) | exact HK.out)⟩, ⟨by repeat (first | (with_reducible first | exact HB.out | apply below_alloc | apply pw_below_drewN | apply below_drew1 | refine below_set ?_ (IsB26.ge HI1.out) | refine below_set ?_ GE305.out) | exact HB.out)⟩⟩
          ·rw [if_neg c13] at H
           exact absurd H (by simp)
         ·rw [if_neg c12] at H
          have c12b0 : ((Go.bits .and .i64 (ji11) 1) == 1) = false := beq_eq_false_iff_ne.mpr c12
          have c12b1 : ((Go.bits .and .i64 (ji11) 1) != 1) = true := bne_iff_ne.mpr c12
          have H' := Aside0.mk H
          clear H
          have p304 : 0 ≤ (x18_2 : Int) := odt_
          have q304 : x18_2 < (l0.length : Int) := odt_
          obtain ⟨ad304, e304, hx304_0, hx304_1⟩ := at_T37 (Kd.C_foot_now HR0.out HK.out) x18_2 p304 q304
          cases e304
          replace p304 := eq_true p304
          replace q304 := eq_true q304
          go_wp2_with (first | ((with_reducible refine gate_dst (N := 7) rfl ?_); refine box_event ?hg (N := 7) ?hd (cs := #[.int .i64 0, .int .i64 0]) (t := 37) ?hr ?_; (case hd => rfl); (case hg => rfl); (case hr => first | (go_simp; done) | (go_simp; rfl)); intro gb305 hg w18 hbox hb; have n0_ := Aside0.mk (Kd.R_below (Kd.R_elderB (rk_ HO_5.out) gb305 (Nat.le_of_eq hg.symm)) hb); have n1_ := Aside0.mk (IsB26.below (by repeat (first | (with_reducible first | exact HI1.out | apply IsB26.alloc | apply IsB26.drewN | apply IsB26.drew ) | exact HI1.out)) hb); have n2_ := Aside0.mk (KeepBut.trans (by repeat (first | (with_reducible first | exact HK.out | apply KeepBut.set_ | apply keep_drewN | apply keep_drew | apply keep_alloc) | exact HK.out)) (KeepBut.of_below hb g none) (.inl rfl)); have n3_ := Aside0.mk (below_step (by repeat (first | (with_reducible first | exact HB.out | apply below_alloc | apply pw_below_drewN | apply below_drew1 | refine below_set ?_ (IsB26.ge HI1.out)) | exact HB.out)) hb); have n4_ := Aside0.mk (hbox); have n5_ := Aside0.mk ((by rw [hg]; exact (keep_size (w := wo) (g := g) (row := none) (by repeat (first | (with_reducible first | exact HK.out | apply KeepBut.set_ | apply keep_drewN | apply keep_drew | apply keep_alloc) | exact HK.out))) : wo.heap.size ≤ gb305)); have n6_ := Aside0.mk ((Nat.le_trans HW0.out (by rw [hg]; exact (keep_size (w := wo) (g := g) (row := none) (by repeat (first | (with_reducible first | exact HK.out | apply KeepBut.set_ | apply keep_drewN | apply keep_drew | apply keep_alloc) | exact HK.out))) : wo.heap.size ≤ gb305) : w0.heap.size ≤ gb305)); have n7_ := Aside0.mk ((by rw [hg]; exact Nat.ne_of_lt (IsB26.lt (show IsB26 w0 _ g vb from by repeat (first | (with_reducible first | exact HI1.out | apply IsB26.alloc | apply IsB26.drewN | apply IsB26.drew ) | exact HI1.out))) : g ≠ gb305)); have n8_ := Aside0.mk ((by rw [hg]; exact Nat.ne_of_gt (IsB26.lt (show IsB26 w0 _ g vb from by repeat (first | (with_reducible first | exact HI1.out | apply IsB26.alloc | apply IsB26.drewN | apply IsB26.drew ) | exact HI1.out))) : gb305 ≠ g)); clear HO_5; clear HI1; clear HK; clear HB; have HO_5 := n0_; have HI1 := n1_; have HK := n2_; have HB := n3_; have BK305 := n4_; have GW305 := n5_; have GE305 := n6_; have NB1_305 := n7_; have NB305_1 := n8_; clear n0_ n1_ n2_ n3_ n4_ n5_ n6_ n7_ n8_; clear hb hbox hg; have hnb19 := NB305_1.out; have hnc19 := NB1_305.out; have hcz20_0 : w18.cell? ⟨gb305, 0, none⟩ = some (.int .i64 0) := (blk_cell BK305.out 0).trans rfl; have hcz20_1 : w18.cell? ⟨gb305, 1, none⟩ = some (.int .i64 0) := (blk_cell BK305.out 1).trans rfl; have hfz20_0 := blk_frozen BK305.out 0; have hfz20_1 := blk_frozen BK305.out 1))
          go_roundg k2
          case measure => have := HK1.out; have := HK2.out; omega
          case rel => exact ⟨(x5_2), (wrap64 (x18_2 + 1)), (by first | rfl | (simp; done) | (simp [*]; done)), H', ⟨by have := HK1.out; have := HK2.out; omega⟩, ⟨by (with_reducible repeat (first | apply Kd.R_alloc | apply Kd.R_drewN | apply Kd.R_drew)); exact Kd.R_mono (Kd.R_far (p := ⟨gb305, 1, none⟩) (Kd.R_far (p := ⟨gb305, 0, none⟩) (Kd.R_mono HO_5.out (fun k_ hk => (⟨hk, hk.2⟩ : _ ∧ k_ ≠ gb305))) (fun _ hk => hk.2) (.int .i64 ((rd_T37 l0 x18_2).f0))) (fun _ hk => hk.2) (.int .i64 ((rd_T37 l0 x18_2).f1))) (fun _ hk => trivial)⟩, ⟨by repeat (first | (with_reducible first | exact HI1.out | apply IsB26.alloc | apply IsB26.drewN | apply IsB26.drew  | refine IsB26.far ?_ NB1_305.out _) | exact HI1.out)⟩, ⟨by repeat (first | (with_reducible first | exact HK.out | apply KeepBut.set_ | apply keep_drewN | apply keep_drew | apply keep_alloc | refine keep_far ?_ GW305.out _) | exact HK.out)⟩, ⟨by repeat (first | (with_reducible first | exact HB.out | apply below_alloc | apply pw_below_drewN | apply below_drew1 | refine below_set ?_ (IsB26.ge HI1.out) | refine below_set ?_ GE305.out) | exact HB.out)⟩⟩
        ·rw [if_neg c9] at H
         exact absurd H (by simp)
       ·rw [if_neg c8] at H
        exact absurd H (by simp)
      ·rw [if_neg c7] at H
       have c7b0 : decide (x18_2 < (l0.length : Int)) = false := decide_eq_false c7
       clear c7
       replace H := Option.bind_eq_some_iff.mp H
       obtain ⟨t309, A210, H⟩ := H
       replace H : (impl_sets.l0 k2 l0 (wrap64 (x4_1 + 1)) t309) = some r := H
       have A21 := Aside0.mk A210
       clear A210
       have H' := Aside0.mk H
       clear H
       obtain ⟨Ao22, co22, eo22⟩ := Kd.R_slice HO_5.out
       subst eo22
       go_wp2_with (first | ((with_reducible refine gate_via (s := 33) rfl ?_); refine goesD_ (some 35) rfl rfl (f := 23) Try.func23 (by kernel_rfl) rfl #[.slice Ao22 x5_2.length co22] #[.pointer (some ⟨g, 0, none⟩)] #[.slice Ao22 x5_2.length co22, .pointer (some ⟨g, 0, none⟩)] rfl rfl rfl (by (try simp only [List.map_toArray, List.map_cons, List.map_nil]); first | done | rfl) ?_; (with_reducible refine (impl_MostConvex_1.calls k2 _ _ x5_2 g vb x2000_1 t309 w0 _ ?side1 ?side2 ?side3 ?side4 A21.out).mono ?_); (case side1 => repeat (first | (with_reducible first | exact HI1.out | apply IsB26.alloc | apply IsB26.drewN | apply IsB26.drew) | exact HI1.out)); (case side2 => exact fun W' hw => HRB.out W' (KeepBut.trans (by repeat (first | (with_reducible first | exact HK.out | apply KeepBut.set_ | apply keep_drewN | apply keep_drew | apply keep_alloc) | exact HK.out)) hw (.inl rfl))); (case side3 => repeat (first | (with_reducible first | exact HB.out | apply below_alloc | apply pw_below_drewN | apply below_drew1 | refine below_set ?_ (IsB26.ge HI1.out)) | exact HB.out)); (case side4 => exact row_lasts (Kd.R_lower (Kd.R_mono (IsB26.apart (show IsB26 w0 _ g vb from by repeat (first | (with_reducible first | exact HI1.out | apply IsB26.alloc | apply IsB26.drewN | apply IsB26.drew) | exact HI1.out)) (rk_ HO_5.out) (by decide)) (fun _ hk => hk.2)) HW0.out)); rintro e w23 ⟨rfl, hi, hb, hk⟩; refine ⟨_, rfl, ?_⟩; have n1_ := Aside0.mk (KeepBut.trans (by repeat (first | (with_reducible first | exact HK.out | apply KeepBut.set_ | apply keep_drewN | apply keep_drew | apply keep_alloc) | exact HK.out)) hk (.inl rfl)); have n2_ := Aside0.mk (hb); have n3_ := Aside0.mk (hi); clear HO_5; clear HK; clear HB; have HK := n1_; have HB := n2_; have HST2 := n3_; clear n1_ n2_ n3_; (try clear hb); (try clear hb2); (try clear hk); (try clear hi)))
       go_roundg k2
       case measure => have := HK1.out; have := HK2.out; omega
       case rel => exact ⟨(wrap64 (x4_1 + 1)), (t309), (by first | rfl | (simp; done) | (simp [*]; done)), H', ⟨by have := HK1.out; have := HK2.out; omega⟩, ⟨HST2.out.lasts (by repeat (first | exact Below.refl _ _ | apply below_alloc | apply pw_below_drewN | apply below_drew1))⟩, ⟨KeepBut.trans HKo.out (by repeat (first | (with_reducible first | exact HK.out | apply KeepBut.set_ | apply keep_drewN | apply keep_drew | apply keep_alloc) | exact HK.out)) (.inl rfl)⟩, ⟨by repeat (first | (with_reducible first | exact HB.out | apply below_alloc | apply pw_below_drewN | apply below_drew1 | refine below_set ?_ (IsB26.ge HI1.out)) | exact HB.out)⟩⟩
   ·rw [if_neg c4] at H
    have c4b0 : decide (x4_1 < (ji3)) = false := decide_eq_false c4
    clear c4
    obtain rfl := Option.some.inj H
    go_wp2
    first | go_end0 | ((try simp only [Exit.inBlock, Exit.then]); refine bodyPost_ret (results_none rfl _ _ _) rfl ?_)
    exact ⟨by first | rfl | (simp [errW_none, errW_some] <;> rfl) | (simp [*, errW_none, errW_some] <;> rfl), HST.out.lasts (by repeat (first | exact Below.refl _ _ | apply below_alloc | apply pw_below_drewN | apply below_drew1)), by repeat (first | (with_reducible first | exact HB.out | apply below_alloc | apply pw_below_drewN | apply below_drew1 | refine below_set ?_ (IsB26.ge HI1.out)) | exact HB.out), KeepBut.trans HKo.out (by repeat (first | (with_reducible first | exact HK.out | apply KeepBut.set_ | apply keep_drewN | apply keep_drew | apply keep_alloc) | exact HK.out)) (.inl rfl)⟩
/-! ### impl_MostConvex: function 11 (a contract by hand) -/
def impl_MostConvex.f (k : Nat) (l0 : List (S37)) : Option (List (S37) × Bool) := ((impl_areFew.f k l0).bind fun t310 => (if t310 = true then ((impl_sorted.f l0).bind fun t311 => ((impl_sets.f k t311 ([] : List (S37))).bind fun t312 => (some (t312, true)))) else (some ([], false))))
theorem impl_MostConvex.mono : ∀ a0 k, LeO (impl_MostConvex.f k a0) (impl_MostConvex.f (k + 1) a0) := by
 intro a0 k
 unfold impl_MostConvex.f
 repeat' first
   | (with_reducible exact impl_areFew.mono _ _)
   | (with_reducible exact impl_sets.mono _ _ _)
   | (with_reducible exact LeO.refl _)
   | (with_reducible exact LeO.none _)
   | (with_reducible refine LeO.ite ?_ ?_)
   | (with_reducible refine LeO.bind ?_ (fun _ => ?_))
set_option maxHeartbeats 8000000 in
set_option maxRecDepth 100000 in
theorem impl_MostConvex.calls (k : Nat) (A0 : Option Addr) (c0 : Nat) (l0 : List (S37)) (r1 : List (S37)) (r2 : Bool) (w : World) (hr0 : Kd.C k37 w A0 l0.length l0) (hc0 : l0.length ≤ c0) (h : impl_MostConvex.f k l0 = some (r1, r2)) :
  Calls Try.prog 11 #[.slice A0 l0.length c0] w fun e w' => ∃ v0_ : Value, e = .returned (.tuple #[v0_, .bool r2]) ∧ Kd.R k37 37 w' w.heap.size (fun _ => True) v0_ r1 ∧ Below w.heap.size w w' := by
 have HR0 := Aside0.mk hr0
 have HC0 := Aside0.mk hc0
 clear hr0 hc0
 have HB := Aside0.mk (Below.refl w.heap.size w)
 have H : ((impl_areFew.f k l0).bind fun t310 => (if t310 = true then ((impl_sorted.f l0).bind fun t311 => ((impl_sets.f k t311 ([] : List (S37))).bind fun t312 => (some (t312, true)))) else (some ([], false)))) = some (r1, r2) := h
 clear h
 replace H := Option.bind_eq_some_iff.mp H
 obtain ⟨t310, A20, H⟩ := H
 have A2 := Aside0.mk A20
 clear A20
 by_cases c3 : t310 = true
 ·subst c3
  rw [if_pos rfl] at H
  replace H := Option.bind_eq_some_iff.mp H
  obtain ⟨t311, A30, H⟩ := H
  have A3 := Aside0.mk A30
  clear A30
  replace H := Option.bind_eq_some_iff.mp H
  obtain ⟨t312, A40, H⟩ := H
  have A4 := Aside0.mk A40
  clear A40
  simp only [Option.some.injEq, Prod.mk.injEq] at H
  obtain ⟨rfl, rfl⟩ := H
  go_enter Try.func11, Try.ntmps11
  go_wp2_with (first | ((with_reducible refine gate_callee (f := 17) rfl ?_); refine goesL_ (some 6) rfl rfl Try.func17 (by kernel_rfl) rfl #[.slice A0 l0.length c0] rfl ga_ ?_; (with_reducible refine (impl_areFew.calls k _ _ l0 true _ ?side1 ?side2 A2.out).mono ?_); (case side1 => repeat (first | exact HR0.out | (with_reducible refine Kd.C_alloc ?_ _) | (with_reducible refine Kd.C_drewN ?_ _) | (with_reducible refine Kd.C_drew ?_))); (case side2 => exact HC0.out); rintro e w5 ⟨rfl, hb⟩; refine ⟨_, rfl, ?_⟩; have n0_ := Aside0.mk (below_step (hb_) hb); clear HB; have HB := n0_; clear n0_; (try clear hb)) | ((with_reducible refine gate_dst (N := 8) rfl ?_); refine Kd.R_lit k37 _ 37 ?hg (N := 8) ?hd (xs := ([] : List (S37))) (inner := []) (ok := fun _ => True) (okp := fun _ => True) ?hr ?hp (fun _ hk => hk) trivial (Below.refl _ _) (Nat.le_refl _) (by simp) ?_; (case hd => rfl); (case hg => rfl); (case hr => first | (go_simp; done) | (go_simp; rfl)); (case hp => exact (Reps.none _ _)); intro vl wl hol hb hg_ hnew_; clear hg_ hnew_; have n0_ := Aside0.mk (Kd.R_lower hol (below_size (hb_))); have n1_ := Aside0.mk (below_step (hb_) hb); clear HB; have HOL := n0_; have HB := n1_; clear n0_ n1_; clear hb hol; obtain ⟨Al, cl, el⟩ := Kd.R_slice HOL.out; subst el) | ((with_reducible refine gate_dst (N := 4) rfl ?_); refine box_event ?hg (N := 4) ?hd (cs := #[.slice none 0 0]) (t := 26) ?hr ?_; (case hd => rfl); (case hg => rfl); (case hr => first | (go_simp; done) | (go_simp; rfl)); intro g hg wx hbox hb; have n0_ := Aside0.mk (below_step (hb_) hb); have n1_ := Aside0.mk ((show IsB26 w wx g (.slice none 0 0) from ⟨hbox, (by rw [hg]; exact (below_size (hb_)) : w.heap.size ≤ g)⟩)); have n2_ := Aside0.mk (Kd.R_below (rk_ HOL.out) hb); clear HB HOL; have HB := n0_; have HI1 := n1_; have HOL := n2_; clear n0_ n1_ n2_; clear hb hbox hg; have hczb := IsB26.cell_0 HI1.out; obtain ⟨HGzb, hgzb⟩ := HI1.out; have hfzb := blk_frozen HGzb 0; clear HGzb hgzb) | ((with_reducible refine gate_callee (f := 22) rfl ?_); refine goesL_ (some 10) rfl rfl Try.func22 (by kernel_rfl) rfl #[.slice A0 l0.length c0] rfl ga_ ?_; (with_reducible refine (impl_sorted.calls _ _ l0 t311 _ ?side1 ?side2 A3.out).mono ?_); (case side1 => exact Kd.C_below HR0.out (by repeat (first | (with_reducible first | exact HB.out | apply below_alloc | apply pw_below_drewN | apply below_drew1 | refine below_set ?_ (IsB26.ge HI1.out)) | exact HB.out))); (case side2 => exact HC0.out); rintro e w7 ⟨vs, rfl, ho, hb⟩; refine ⟨_, rfl, ?_⟩; obtain ⟨As, cs, es⟩ := Kd.R_slice ho; subst es; have n0_ := Aside0.mk (ho); have n1_ := Aside0.mk (BestSt.lasts (w0 := w) (g := g) (xs := []) ⟨.slice Al 0 cl, (by repeat (first | exact IsB26.set_0 HI1.out _ | apply IsB26.alloc | apply IsB26.drewN | apply IsB26.drew)), row_lasts (Kd.R_mono (IsB26.apart (f0 := .slice Al 0 cl) (by repeat (first | exact IsB26.set_0 HI1.out _ | apply IsB26.alloc | apply IsB26.drewN | apply IsB26.drew)) (by (with_reducible repeat (first | apply Kd.R_alloc | apply Kd.R_drewN | apply Kd.R_drew)); exact Kd.R_far (p := ⟨g, 0, none⟩) (Kd.R_mono (IsB26.apart HI1.out HOL.out (by decide)) (fun _ hk => hk.2)) (fun _ hk => hk) _) (by decide)) (fun _ hk => hk.2))⟩ hb); have n2_ := Aside0.mk (below_weaken (by repeat (first | (with_reducible first | exact HB.out | apply below_alloc | apply pw_below_drewN | apply below_drew1 | refine below_set ?_ (IsB26.ge HI1.out)) | exact HB.out)) (below_size (by repeat (first | (with_reducible first | exact HB.out | apply below_alloc | apply pw_below_drewN | apply below_drew1 | refine below_set ?_ (IsB26.ge HI1.out)) | exact HB.out))) hb); have n3_ := Aside0.mk (HI1.out.ge); clear HB HI1 HOL; have HOS := n0_; have HST := n1_; have HB := n2_; have HGE := n3_; clear n0_ n1_ n2_ n3_; (try clear hb); clear ho) | ((with_reducible refine gate_callee (f := 18) rfl ?_); refine goesL_ (some 12) rfl rfl Try.func18 (by kernel_rfl) rfl #[.slice As t311.length cs, .func (.func 23) #[] #[.pointer (some ⟨g, 0, none⟩)]] rfl ga_ ?_; (with_reducible refine (impl_sets.calls k _ _ t311 g [] t312 w _ ?side1 ?side2 ?side3 ?side4 A4.out).mono ?_); (case side1 => exact BestSt.lasts HST.out (by repeat (first | exact Below.refl _ _ | apply below_alloc | apply pw_below_drewN | apply below_drew1))); (case side2 => exact hb_); (case side3 => exact fun W_ hw => (Kd.R_reads' (BestSt.row HST.out HOS.out W_ hw)).2.2); (case side4 => exact (Kd.R_reads' HOS.out).2.1); rintro e w9 ⟨rfl, hi, hb, hk⟩; refine ⟨_, rfl, ?_⟩; have n1_ := Aside0.mk (hb); clear HST HB HOS; have HB := n1_; clear n1_; clear hb hk; obtain ⟨vf, hif, hrf⟩ := hi; obtain ⟨Af, cf, ef⟩ := Kd.R_slice (hrf _ (KeepBut.refl _ g none)); subst ef; have hczf := IsB26.cell_0 hif; have hfzf := blk_frozen hif.1 0; have HRF := Aside0.mk (hrf _ (KeepBut.refl _ g none)); clear hif hrf))
  go_ret2
  exact ⟨_, by first | rfl | (simp [errW_none, errW_some] <;> rfl) | (simp [*, errW_none, errW_some] <;> rfl), by (with_reducible repeat (first | apply Kd.R_alloc | apply Kd.R_drewN | apply Kd.R_drew)); exact HRF.out, hb_⟩
 ·replace c3 := Bool.eq_false_iff.mpr c3
  subst c3
  rw [if_neg (show ¬ (false = true) by decide)] at H
  simp only [Option.some.injEq, Prod.mk.injEq] at H
  obtain ⟨rfl, rfl⟩ := H
  go_enter Try.func11, Try.ntmps11
  go_wp2_with (first | ((with_reducible refine gate_callee (f := 17) rfl ?_); refine goesL_ (some 6) rfl rfl Try.func17 (by kernel_rfl) rfl #[.slice A0 l0.length c0] rfl ga_ ?_; (with_reducible refine (impl_areFew.calls k _ _ l0 false _ ?side1 ?side2 A2.out).mono ?_); (case side1 => repeat (first | exact HR0.out | (with_reducible refine Kd.C_alloc ?_ _) | (with_reducible refine Kd.C_drewN ?_ _) | (with_reducible refine Kd.C_drew ?_))); (case side2 => exact HC0.out); rintro e w5 ⟨rfl, hb⟩; refine ⟨_, rfl, ?_⟩; have n0_ := Aside0.mk (below_step (hb_) hb); clear HB; have HB := n0_; clear n0_; (try clear hb)))
  go_ret2
  exact ⟨_, by first | rfl | (simp [errW_none, errW_some] <;> rfl) | (simp [*, errW_none, errW_some] <;> rfl), Kd.R_nil _ _ _ _ _, hb_⟩

end Go.Proofs.Ytnnmpdhijdkpcaa.MW
