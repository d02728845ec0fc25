-- Written by a program of this session (wip/print/myprint.py) over the kit's printer; Lean checks it.
import Derived.Test.YtlhiificglpgkaaMGx0
import Derived.Test.YtlhiificglpgkaaMGx1
import Derived.Test.YtlhiificglpgkaaMGx3
import Derived.Test.YtlhiificglpgkaaMGx6
import Derived.Test.YtlhiificglpgkaaMGx10
import Derived.Test.YtlhiificglpgkaaMGx11
import Derived.Test.YtlhiificglpgkaaMGx12
namespace Go.Proofs.Ytlhiificglpgkaa.MG
open Go.RowKit Go.Proofs.YtlhiificglpgkaaW.PrintWords Go.Proofs.YtlhiificglpgkaaW.PrintLast Go.Proofs.YtlhiificglpgkaaW.PrintMore Go.Proofs.YtlhiificglpgkaaV
attribute [local go_sem] max2_int min2_int max_two min_two max_three min_three max_four min_four   -- for this text's walks alone
set_option linter.unusedVariables false
set_option linter.unusedSimpArgs false

/-! ### laws_FnExactAddClue: function 5 -/
mutual
def laws_FnExactAddClue.j0 : Nat → Bool → Bool → Bool → Int → List (S34) → Int → Int → Int → Int → Int → List (S39) → Int → List (S39) → Int → List (S39) → Option (Bool)
  | 0, _, _, _, _, _, _, _, _, _, _, _, _, _, _, _ => none
  | k + 1, x7, x10, x46, x214000, x214001, x215000, x215001, x215002, x215003, x230000, x230001, x235000, x235001, x245000, x245001 => if x46 = true then (some false) else ((laws_toPuzzle.f k x214000 x214001).bind fun bt246 => ((laws_eqPuzzle.f k x235000 x235001 bt246.1 bt246.2).bind fun t250 => (if t250 = true then ((laws_markPuzzle.f k x235000 x235001 1).bind fun bt251 => (if bt251.1 < 0 then (laws_FnExactAddClue.j1 k x7 true x214000 x214001 x215000 x215001 x215002 x215003 x230000 x230001 x245000 x245001) else ((laws_eqPuzzle.f k x245000 x245001 x230000 x230001).bind fun t253 => (if t253 = true then (laws_FnExactAddClue.j1 k x7 (x10 != x7) x214000 x214001 x215000 x215001 x215002 x215003 x230000 x230001 x245000 x245001) else (laws_FnExactAddClue.j1 k x7 true x214000 x214001 x215000 x215001 x215002 x215003 x230000 x230001 x245000 x245001))))) else (some false))))
def laws_FnExactAddClue.j1 : Nat → Bool → Bool → Int → List (S34) → Int → Int → Int → Int → Int → List (S39) → Int → List (S39) → Option (Bool)
  | 0, _, _, _, _, _, _, _, _, _, _, _, _ => none
  | k + 1, x7, x67, x214000, x214001, x215000, x215001, x215002, x215003, x230000, x230001, x245000, x245001 => if x67 = true then (some false) else ((laws_markPuzzle.f k x245000 x245001 1).bind fun bt254 => ((laws_heldPuzzle.f k x245000 bt254.2 1).bind fun t256 => (if t256 < 0 then (some false) else (if t256 = bt254.1 then ((laws_toPuzzle.f k x214000 x214001).bind fun bt257 => ((laws_toClue.f x215000 x215001 x215002 x215003).bind fun bt261 => ((impl_AddClue.f k bt257.1 bt257.2 bt261.1 bt261.2.1 bt261.2.2.1 bt261.2.2.2).bind fun bt265 => ((laws_eqPuzzle.f k bt265.1 bt265.2.1 x230000 x230001).bind fun t271 => (if t271 = true then (laws_FnExactAddClue.j2 k bt254.1 (bt265.2.2 != x7) x245000 bt254.2) else (laws_FnExactAddClue.j2 k bt254.1 true x245000 bt254.2)))))) else (some false)))))
def laws_FnExactAddClue.j2 : Nat → Int → Bool → Int → List (S39) → Option (Bool)
  | 0, _, _, _, _ => none
  | k + 1, x12, x95, x245000, x245001 => if x95 = true then (some false) else ((laws_heldPuzzle.f k x245000 x245001 1).bind fun t272 => (if t272 < 0 then (some false) else (if t272 = x12 then (some true) else (some false))))
end
def laws_FnExactAddClue.f (k : Nat) (a0_0 : Int) (l0_1 : List (S34)) (a1_0 : Int) (a1_1 : Int) (a1_2 : Int) (a1_3 : Int) : Option (Bool) := (laws_szPuzzle.f a0_0 l0_1 1048576).bind fun t215 => (if t215 < 0 then (some true) else ((laws_toPuzzle.f k a0_0 l0_1).bind fun bt216 => ((laws_toClue.f a1_0 a1_1 a1_2 a1_3).bind fun bt220 => ((spec_AddClue.f k bt216.1 bt216.2 bt220.1 bt220.2.1 bt220.2.2.1 bt220.2.2.2).bind fun bt224 => ((laws_toPuzzle.f k a0_0 l0_1).bind fun bt230 => ((laws_toClue.f a1_0 a1_1 a1_2 a1_3).bind fun bt235 => ((impl_AddClue.f k bt230.1 bt230.2 bt235.1 bt235.2.1 bt235.2.2.1 bt235.2.2.2).bind fun bt239 => ((laws_eqPuzzle.f k bt239.1 bt239.2.1 bt224.1 bt224.2.1).bind fun t245 => (if t245 = true then (laws_FnExactAddClue.j0 k bt224.2.2 bt239.2.2 (bt239.2.2 != bt224.2.2) a0_0 l0_1 a1_0 a1_1 a1_2 a1_3 bt224.1 bt224.2.1 bt230.1 bt230.2 bt239.1 bt239.2.1) else (laws_FnExactAddClue.j0 k bt224.2.2 bt239.2.2 true a0_0 l0_1 a1_0 a1_1 a1_2 a1_3 bt224.1 bt224.2.1 bt230.1 bt230.2 bt239.1 bt239.2.1))))))))))
theorem laws_FnExactAddClue.mono_l : ∀ k, (∀ y0 y1 y2 y3 y4 y5 y6 y7 y8 y9 y10 y11 y12 y13 y14, LeO (laws_FnExactAddClue.j0 k y0 y1 y2 y3 y4 y5 y6 y7 y8 y9 y10 y11 y12 y13 y14) (laws_FnExactAddClue.j0 (k + 1) y0 y1 y2 y3 y4 y5 y6 y7 y8 y9 y10 y11 y12 y13 y14)) ∧ (∀ y0 y1 y2 y3 y4 y5 y6 y7 y8 y9 y10 y11, LeO (laws_FnExactAddClue.j1 k y0 y1 y2 y3 y4 y5 y6 y7 y8 y9 y10 y11) (laws_FnExactAddClue.j1 (k + 1) y0 y1 y2 y3 y4 y5 y6 y7 y8 y9 y10 y11)) ∧ (∀ y0 y1 y2 y3, LeO (laws_FnExactAddClue.j2 k y0 y1 y2 y3) (laws_FnExactAddClue.j2 (k + 1) y0 y1 y2 y3))
  | 0 => ⟨fun _ _ _ _ _ _ _ _ _ _ _ _ _ _ _ r h => by simp [laws_FnExactAddClue.j0] at h, fun _ _ _ _ _ _ _ _ _ _ _ _ r h => by simp [laws_FnExactAddClue.j1] at h, fun _ _ _ _ r h => by simp [laws_FnExactAddClue.j2] at h⟩
  | k + 1 => by
    obtain ⟨ih0, ih1, ih2⟩ := laws_FnExactAddClue.mono_l k
    refine ⟨?_, ?_, ?_⟩
    · intro y0 y1 y2 y3 y4 y5 y6 y7 y8 y9 y10 y11 y12 y13 y14
      unfold laws_FnExactAddClue.j0
      repeat' first
      | (with_reducible exact ih0 _ _ _ _ _ _ _ _ _ _ _ _ _ _ _)
      | (with_reducible exact ih1 _ _ _ _ _ _ _ _ _ _ _ _)
      | (with_reducible exact ih2 _ _ _ _)
      | (with_reducible exact impl_AddClue.mono _ _ _ _ _ _ _)
      | (with_reducible exact laws_eqPuzzle.mono _ _ _ _ _)
      | (with_reducible exact laws_heldPuzzle.mono _ _ _ _)
      | (with_reducible exact laws_markPuzzle.mono _ _ _ _)
      | (with_reducible exact laws_toPuzzle.mono _ _ _)
      | (with_reducible exact spec_AddClue.mono _ _ _ _ _ _ _)
      | (with_reducible exact LeO.refl _)
      | (with_reducible exact LeO.none _)
      | (with_reducible refine LeO.ite ?_ ?_)
      | (with_reducible refine LeO.bind ?_ (fun _ => ?_))
      | exact ih0 _ _ _ _ _ _ _ _ _ _ _ _ _ _ _
      | exact ih1 _ _ _ _ _ _ _ _ _ _ _ _
      | exact ih2 _ _ _ _
      | exact impl_AddClue.mono _ _ _ _ _ _ _
      | exact laws_eqPuzzle.mono _ _ _ _ _
      | exact laws_heldPuzzle.mono _ _ _ _
      | exact laws_markPuzzle.mono _ _ _ _
      | exact laws_toPuzzle.mono _ _ _
      | exact spec_AddClue.mono _ _ _ _ _ _ _
      | exact LeO.none _
      | refine LeO.ite ?_ ?_
      | refine LeO.bind ?_ (fun _ => ?_)
    · intro y0 y1 y2 y3 y4 y5 y6 y7 y8 y9 y10 y11
      unfold laws_FnExactAddClue.j1
      repeat' first
      | (with_reducible exact ih0 _ _ _ _ _ _ _ _ _ _ _ _ _ _ _)
      | (with_reducible exact ih1 _ _ _ _ _ _ _ _ _ _ _ _)
      | (with_reducible exact ih2 _ _ _ _)
      | (with_reducible exact impl_AddClue.mono _ _ _ _ _ _ _)
      | (with_reducible exact laws_eqPuzzle.mono _ _ _ _ _)
      | (with_reducible exact laws_heldPuzzle.mono _ _ _ _)
      | (with_reducible exact laws_markPuzzle.mono _ _ _ _)
      | (with_reducible exact laws_toPuzzle.mono _ _ _)
      | (with_reducible exact spec_AddClue.mono _ _ _ _ _ _ _)
      | (with_reducible exact LeO.refl _)
      | (with_reducible exact LeO.none _)
      | (with_reducible refine LeO.ite ?_ ?_)
      | (with_reducible refine LeO.bind ?_ (fun _ => ?_))
      | exact ih0 _ _ _ _ _ _ _ _ _ _ _ _ _ _ _
      | exact ih1 _ _ _ _ _ _ _ _ _ _ _ _
      | exact ih2 _ _ _ _
      | exact impl_AddClue.mono _ _ _ _ _ _ _
      | exact laws_eqPuzzle.mono _ _ _ _ _
      | exact laws_heldPuzzle.mono _ _ _ _
      | exact laws_markPuzzle.mono _ _ _ _
      | exact laws_toPuzzle.mono _ _ _
      | exact spec_AddClue.mono _ _ _ _ _ _ _
      | exact LeO.none _
      | refine LeO.ite ?_ ?_
      | refine LeO.bind ?_ (fun _ => ?_)
    · intro y0 y1 y2 y3
      unfold laws_FnExactAddClue.j2
      repeat' first
      | (with_reducible exact ih0 _ _ _ _ _ _ _ _ _ _ _ _ _ _ _)
      | (with_reducible exact ih1 _ _ _ _ _ _ _ _ _ _ _ _)
      | (with_reducible exact ih2 _ _ _ _)
      | (with_reducible exact impl_AddClue.mono _ _ _ _ _ _ _)
      | (with_reducible exact laws_eqPuzzle.mono _ _ _ _ _)
      | (with_reducible exact laws_heldPuzzle.mono _ _ _ _)
      | (with_reducible exact laws_markPuzzle.mono _ _ _ _)
      | (with_reducible exact laws_toPuzzle.mono _ _ _)
      | (with_reducible exact spec_AddClue.mono _ _ _ _ _ _ _)
      | (with_reducible exact LeO.refl _)
      | (with_reducible exact LeO.none _)
      | (with_reducible refine LeO.ite ?_ ?_)
      | (with_reducible refine LeO.bind ?_ (fun _ => ?_))
      | exact ih0 _ _ _ _ _ _ _ _ _ _ _ _ _ _ _
      | exact ih1 _ _ _ _ _ _ _ _ _ _ _ _
      | exact ih2 _ _ _ _
      | exact impl_AddClue.mono _ _ _ _ _ _ _
      | exact laws_eqPuzzle.mono _ _ _ _ _
      | exact laws_heldPuzzle.mono _ _ _ _
      | exact laws_markPuzzle.mono _ _ _ _
      | exact laws_toPuzzle.mono _ _ _
      | exact spec_AddClue.mono _ _ _ _ _ _ _
      | exact LeO.none _
      | refine LeO.ite ?_ ?_
      | refine LeO.bind ?_ (fun _ => ?_)
theorem laws_FnExactAddClue.mono : ∀ a0 a1 a2 a3 a4 a5 k, LeO (laws_FnExactAddClue.f k a0 a1 a2 a3 a4 a5) (laws_FnExactAddClue.f (k + 1) a0 a1 a2 a3 a4 a5) := by
  intro a0 a1 a2 a3 a4 a5 k
  obtain ⟨ih0, ih1, ih2⟩ := laws_FnExactAddClue.mono_l k
  unfold laws_FnExactAddClue.f
  repeat' first
      | (with_reducible exact ih0 _ _ _ _ _ _ _ _ _ _ _ _ _ _ _)
      | (with_reducible exact ih1 _ _ _ _ _ _ _ _ _ _ _ _)
      | (with_reducible exact ih2 _ _ _ _)
      | (with_reducible exact impl_AddClue.mono _ _ _ _ _ _ _)
      | (with_reducible exact laws_eqPuzzle.mono _ _ _ _ _)
      | (with_reducible exact laws_heldPuzzle.mono _ _ _ _)
      | (with_reducible exact laws_markPuzzle.mono _ _ _ _)
      | (with_reducible exact laws_toPuzzle.mono _ _ _)
      | (with_reducible exact spec_AddClue.mono _ _ _ _ _ _ _)
      | (with_reducible exact LeO.refl _)
      | (with_reducible exact LeO.none _)
      | (with_reducible refine LeO.ite ?_ ?_)
      | (with_reducible refine LeO.bind ?_ (fun _ => ?_))
      | exact ih0 _ _ _ _ _ _ _ _ _ _ _ _ _ _ _
      | exact ih1 _ _ _ _ _ _ _ _ _ _ _ _
      | exact ih2 _ _ _ _
      | exact impl_AddClue.mono _ _ _ _ _ _ _
      | exact laws_eqPuzzle.mono _ _ _ _ _
      | exact laws_heldPuzzle.mono _ _ _ _
      | exact laws_markPuzzle.mono _ _ _ _
      | exact laws_toPuzzle.mono _ _ _
      | exact spec_AddClue.mono _ _ _ _ _ _ _
      | exact LeO.none _
      | refine LeO.ite ?_ ?_
      | refine LeO.bind ?_ (fun _ => ?_)
def laws_FnExactAddClue.T5 : Bool × List (List Nat × List Nat) := (true, [([], []), ([0], [0]), ([], []), ([2, 1], [2]), ([1, 3, 3], [1, 3]), ([4], [4]), ([5], [5]), ([5], [5]), ([], []), ([8, 6, 4, 0, 1, 2, 3, 4, 5, 6, 8], [6, 8]), ([7, 9, 0, 1, 2, 3, 4, 5, 6, 7, 8, 9], [7])])
def laws_FnExactAddClue.B5 : List Nat := [0, 1, 0, 7, 15, 31, 63, 63, 0, 383, 1023]
theorem laws_FnExactAddClue.tab5 : rtab .any (opsOf Try.f5 5) = laws_FnExactAddClue.T5 := by kernel_rfl
theorem laws_FnExactAddClue.bits5 : waitsOk laws_FnExactAddClue.T5.2 laws_FnExactAddClue.B5 = true := by kernel_rfl
def laws_FnExactAddClue.T7 : Bool × List (List Nat × List Nat) := (true, [([], []), ([], []), ([1], [1]), ([0, 2, 2], [0, 2]), ([3], [3]), ([4], [4]), ([4], [4]), ([], []), ([7, 5, 3, 0, 1, 2, 3, 4, 5, 7], [5, 7]), ([6, 8, 0, 1, 2, 3, 4, 5, 6, 7, 8], [6])])
def laws_FnExactAddClue.B7 : List Nat := [0, 0, 2, 7, 15, 31, 31, 0, 191, 511]
theorem laws_FnExactAddClue.tab7 : rtab .any (opsOf Try.f5 7) = laws_FnExactAddClue.T7 := by kernel_rfl
theorem laws_FnExactAddClue.bits7 : waitsOk laws_FnExactAddClue.T7.2 laws_FnExactAddClue.B7 = true := by kernel_rfl
def laws_FnExactAddClue.T24 : Bool × List (List Nat × List Nat) := (true, [([], []), ([0], [0]), ([], []), ([2, 1], [2]), ([1, 3, 3], [1, 3]), ([4], [4]), ([5], [5]), ([5], [5]), ([], []), ([8, 6, 4, 0, 1, 2, 3, 4, 5, 6, 8], [6, 8]), ([7, 9, 0, 1, 2, 3, 4, 5, 6, 7, 8, 9], [7])])
def laws_FnExactAddClue.B24 : List Nat := [0, 1, 0, 7, 15, 31, 63, 63, 0, 383, 1023]
theorem laws_FnExactAddClue.tab24 : rtab .any (opsOf Try.f5 24) = laws_FnExactAddClue.T24 := by kernel_rfl
theorem laws_FnExactAddClue.bits24 : waitsOk laws_FnExactAddClue.T24.2 laws_FnExactAddClue.B24 = true := by kernel_rfl
set_option maxHeartbeats 8000000 in
set_option maxRecDepth 100000 in
theorem laws_FnExactAddClue.calls (k : Nat) (a0_0 : Int) (A0_1 : Option Addr) (c0_1 : Nat) (l0_1 : List (S34)) (a1_0 : Int) (a1_1 : Int) (a1_2 : Int) (a1_3 : Int) (r : Bool) (w : World) (hr0_1 : Kd.C k34 w A0_1 l0_1.length l0_1) (hc0_1 : l0_1.length ≤ c0_1) (hr_ : r = true) (h : laws_FnExactAddClue.f k a0_0 l0_1 a1_0 a1_1 a1_2 a1_3 = some r) :
    Calls Try.prog 5 #[.agg #[.int .i64 a0_0, .slice A0_1 l0_1.length c0_1], .agg #[.int .i64 a1_0, .int .i64 a1_1, .int .i64 a1_2, .int .i64 a1_3]] w fun e w' => e = .returned (.bool r) ∧ Below w.heap.size w w' := by
  have hu24 := Try.underlying24
  have hu34 := Try.underlying34
  have hu29 := Try.underlying29
  have HR0_1 := Aside0.mk hr0_1
  have HC0_1 := Aside0.mk hc0_1
  clear hr0_1 hc0_1
  have HB := Aside0.mk (Below.refl w.heap.size w)
  have H : ((laws_szPuzzle.f a0_0 l0_1 1048576).bind fun t215 => (if t215 < 0 then (some true) else ((laws_toPuzzle.f k a0_0 l0_1).bind fun bt216 => ((laws_toClue.f a1_0 a1_1 a1_2 a1_3).bind fun bt220 => ((spec_AddClue.f k bt216.1 bt216.2 bt220.1 bt220.2.1 bt220.2.2.1 bt220.2.2.2).bind fun bt224 => ((laws_toPuzzle.f k a0_0 l0_1).bind fun bt230 => ((laws_toClue.f a1_0 a1_1 a1_2 a1_3).bind fun bt235 => ((impl_AddClue.f k bt230.1 bt230.2 bt235.1 bt235.2.1 bt235.2.2.1 bt235.2.2.2).bind fun bt239 => ((laws_eqPuzzle.f k bt239.1 bt239.2.1 bt224.1 bt224.2.1).bind fun t245 => (if t245 = true then (laws_FnExactAddClue.j0 k bt224.2.2 bt239.2.2 (bt239.2.2 != bt224.2.2) a0_0 l0_1 a1_0 a1_1 a1_2 a1_3 bt224.1 bt224.2.1 bt230.1 bt230.2 bt239.1 bt239.2.1) else (laws_FnExactAddClue.j0 k bt224.2.2 bt239.2.2 true a0_0 l0_1 a1_0 a1_1 a1_2 a1_3 bt224.1 bt224.2.1 bt230.1 bt230.2 bt239.1 bt239.2.1))))))))))) = some r := h
  clear h
  replace H := Option.bind_eq_some_iff.mp H
  obtain ⟨t215, A30, H⟩ := H
  replace H : (if t215 < 0 then (some true) else ((laws_toPuzzle.f k a0_0 l0_1).bind fun bt216 => ((laws_toClue.f a1_0 a1_1 a1_2 a1_3).bind fun bt220 => ((spec_AddClue.f k bt216.1 bt216.2 bt220.1 bt220.2.1 bt220.2.2.1 bt220.2.2.2).bind fun bt224 => ((laws_toPuzzle.f k a0_0 l0_1).bind fun bt230 => ((laws_toClue.f a1_0 a1_1 a1_2 a1_3).bind fun bt235 => ((impl_AddClue.f k bt230.1 bt230.2 bt235.1 bt235.2.1 bt235.2.2.1 bt235.2.2.2).bind fun bt239 => ((laws_eqPuzzle.f k bt239.1 bt239.2.1 bt224.1 bt224.2.1).bind fun t245 => (if t245 = true then (laws_FnExactAddClue.j0 k bt224.2.2 bt239.2.2 (bt239.2.2 != bt224.2.2) a0_0 l0_1 a1_0 a1_1 a1_2 a1_3 bt224.1 bt224.2.1 bt230.1 bt230.2 bt239.1 bt239.2.1) else (laws_FnExactAddClue.j0 k bt224.2.2 bt239.2.2 true a0_0 l0_1 a1_0 a1_1 a1_2 a1_3 bt224.1 bt224.2.1 bt230.1 bt230.2 bt239.1 bt239.2.1)))))))))) = some r := H
  have A3 := Aside0.mk A30
  clear A30
  by_cases c4 : t215 < 0
  · rw [if_pos c4] at H
    have c4b0 : decide (t215 < 0) = true := decide_eq_true c4
    clear c4
    obtain rfl := Option.some.inj H
    go_enter Try.func5, Try.ntmps5
    go_wp2_with (first | ((with_reducible refine gate_dst (N := 2) rfl ?_); refine box_event ?hg (N := 2) ?hd (cs := #[.int .i64 a0_0, .slice A0_1 l0_1.length c0_1]) (t := 24) ?hr ?_; (case hd => rfl); (case hg => rfl); (case hr => first | (go_simp; done) | (go_simp; rfl)); intro gb213 hg w5 hbox hb; have n0_ := Aside0.mk (below_step (hb_) hb); have n1_ := Aside0.mk (hbox); have n2_ := Aside0.mk ((by rw [hg]; exact (below_size (hb_)) : w.heap.size ≤ gb213)); have n3_ := Aside0.mk ((by rw [hg]; exact (below_size (hb_)) : w.heap.size ≤ gb213)); clear HB; have HB := n0_; have BK213 := n1_; have GW213 := n2_; have GE213 := n3_; clear n0_ n1_ n2_ n3_; clear hb hbox hg) | ((with_reducible refine gate_dst (N := 3) rfl ?_); refine box_event ?hg (N := 3) ?hd (cs := #[.int .i64 a1_0, .int .i64 a1_1, .int .i64 a1_2, .int .i64 a1_3]) (t := 34) ?hr ?_; (case hd => rfl); (case hg => rfl); (case hr => first | (go_simp; done) | (go_simp; rfl)); intro gb214 hg w6 hbox hb; have n0_ := bb_ BK213 hb; have n1_ := Aside0.mk (below_step (hbg_) hb); have n2_ := Aside0.mk (hbox); have n3_ := Aside0.mk ((by rw [hg]; exact (below_size (hbg_)) : w.heap.size ≤ gb214)); have n4_ := Aside0.mk ((by rw [hg]; exact (below_size (hbg_)) : w.heap.size ≤ gb214)); have n5_ := Aside0.mk ((by rw [hg]; exact Nat.ne_of_lt (blk_lt (bk_ BK213.out)) : gb213 ≠ gb214)); have n6_ := Aside0.mk ((by rw [hg]; exact Nat.ne_of_gt (blk_lt (bk_ BK213.out)) : gb214 ≠ gb213)); clear BK213; clear HB; have BK213 := n0_; have HB := n1_; have BK214 := n2_; have GW214 := n3_; have GE214 := n4_; have NB213_214 := n5_; have NB214_213 := n6_; clear n0_ n1_ n2_ n3_ n4_ n5_ n6_; clear hb hbox hg; have hnb7 := NB213_214.out; have hnc7 := NB214_213.out; have hcz8_0 : w6.cell? ⟨gb213, 0, none⟩ = some (.int .i64 a0_0) := (blk_cell BK213.out 0).trans rfl; have hcz8_1 : w6.cell? ⟨gb213, 1, none⟩ = some (.slice A0_1 l0_1.length c0_1) := (blk_cell BK213.out 1).trans rfl; have hfz8_0 := blk_frozen BK213.out 0; have hfz8_1 := blk_frozen BK213.out 1) | ((with_reducible refine gate_callee (f := 15) rfl ?_); refine goesL_ (some 18) rfl rfl Try.func15 (by kernel_rfl) rfl #[.agg #[.int .i64 a0_0, .slice A0_1 l0_1.length c0_1], .int .i64 1048576] rfl (by (try simp only [List.map_toArray, List.map_cons, List.map_nil]); first | done | rfl | (simp only [List.length_drop, List.length_take]; rfl)) ?_; (with_reducible refine (laws_szPuzzle.calls a0_0 _ _ l0_1 1048576 t215 _ ?side1 ?side2 A3.out).mono ?_); (case side1 => repeat (first | exact (Kd.C_below HR0_1.out HB.out) | (with_reducible refine Kd.C_alloc ?_ _) | (with_reducible refine Kd.C_drewN ?_ _) | (with_reducible refine Kd.C_drew ?_))); (case side2 => exact HC0_1.out); rintro e w9 ⟨rfl, hb⟩; refine ⟨_, rfl, ?_⟩; have n0_ := bb_ BK213 hb; have n1_ := bb_ BK214 hb; have n2_ := Aside0.mk (below_step (hbg_) hb); clear BK213; clear BK214; clear HB; have BK213 := n0_; have BK214 := n1_; have HB := n2_; clear n0_ n1_ n2_; (try clear hb); (try clear hb2); (try clear hk); (try clear hi)))
    go_ret
    exact ⟨by first | rfl | (simp [errW_none, errW_some] <;> rfl) | (simp [*, errW_none, errW_some] <;> rfl), hbg_⟩
  · rw [if_neg c4] at H
    have c4b0 : decide (t215 < 0) = false := decide_eq_false c4
    clear c4
    replace H := Option.bind_eq_some_iff.mp H
    obtain ⟨⟨t216, t217⟩, A100, H⟩ := H
    replace H : ((laws_toClue.f a1_0 a1_1 a1_2 a1_3).bind fun bt220 => ((spec_AddClue.f k t216 t217 bt220.1 bt220.2.1 bt220.2.2.1 bt220.2.2.2).bind fun bt224 => ((laws_toPuzzle.f k a0_0 l0_1).bind fun bt230 => ((laws_toClue.f a1_0 a1_1 a1_2 a1_3).bind fun bt235 => ((impl_AddClue.f k bt230.1 bt230.2 bt235.1 bt235.2.1 bt235.2.2.1 bt235.2.2.2).bind fun bt239 => ((laws_eqPuzzle.f k bt239.1 bt239.2.1 bt224.1 bt224.2.1).bind fun t245 => (if t245 = true then (laws_FnExactAddClue.j0 k bt224.2.2 bt239.2.2 (bt239.2.2 != bt224.2.2) a0_0 l0_1 a1_0 a1_1 a1_2 a1_3 bt224.1 bt224.2.1 bt230.1 bt230.2 bt239.1 bt239.2.1) else (laws_FnExactAddClue.j0 k bt224.2.2 bt239.2.2 true a0_0 l0_1 a1_0 a1_1 a1_2 a1_3 bt224.1 bt224.2.1 bt230.1 bt230.2 bt239.1 bt239.2.1)))))))) = some r := H
    have A10 := Aside0.mk A100
    clear A100
    replace H := Option.bind_eq_some_iff.mp H
    obtain ⟨⟨t220, t221, t222, t223⟩, A110, H⟩ := H
    replace H : ((spec_AddClue.f k t216 t217 t220 t221 t222 t223).bind fun bt224 => ((laws_toPuzzle.f k a0_0 l0_1).bind fun bt230 => ((laws_toClue.f a1_0 a1_1 a1_2 a1_3).bind fun bt235 => ((impl_AddClue.f k bt230.1 bt230.2 bt235.1 bt235.2.1 bt235.2.2.1 bt235.2.2.2).bind fun bt239 => ((laws_eqPuzzle.f k bt239.1 bt239.2.1 bt224.1 bt224.2.1).bind fun t245 => (if t245 = true then (laws_FnExactAddClue.j0 k bt224.2.2 bt239.2.2 (bt239.2.2 != bt224.2.2) a0_0 l0_1 a1_0 a1_1 a1_2 a1_3 bt224.1 bt224.2.1 bt230.1 bt230.2 bt239.1 bt239.2.1) else (laws_FnExactAddClue.j0 k bt224.2.2 bt239.2.2 true a0_0 l0_1 a1_0 a1_1 a1_2 a1_3 bt224.1 bt224.2.1 bt230.1 bt230.2 bt239.1 bt239.2.1))))))) = some r := H
    have A11 := Aside0.mk A110
    clear A110
    replace H := Option.bind_eq_some_iff.mp H
    obtain ⟨⟨t224, t225, t228⟩, A120, H⟩ := H
    replace H : ((laws_toPuzzle.f k a0_0 l0_1).bind fun bt230 => ((laws_toClue.f a1_0 a1_1 a1_2 a1_3).bind fun bt235 => ((impl_AddClue.f k bt230.1 bt230.2 bt235.1 bt235.2.1 bt235.2.2.1 bt235.2.2.2).bind fun bt239 => ((laws_eqPuzzle.f k bt239.1 bt239.2.1 t224 t225).bind fun t245 => (if t245 = true then (laws_FnExactAddClue.j0 k t228 bt239.2.2 (bt239.2.2 != t228) a0_0 l0_1 a1_0 a1_1 a1_2 a1_3 t224 t225 bt230.1 bt230.2 bt239.1 bt239.2.1) else (laws_FnExactAddClue.j0 k t228 bt239.2.2 true a0_0 l0_1 a1_0 a1_1 a1_2 a1_3 t224 t225 bt230.1 bt230.2 bt239.1 bt239.2.1)))))) = some r := H
    have A12 := Aside0.mk A120
    clear A120
    replace H := Option.bind_eq_some_iff.mp H
    obtain ⟨⟨t230, t231⟩, A130, H⟩ := H
    replace H : ((laws_toClue.f a1_0 a1_1 a1_2 a1_3).bind fun bt235 => ((impl_AddClue.f k t230 t231 bt235.1 bt235.2.1 bt235.2.2.1 bt235.2.2.2).bind fun bt239 => ((laws_eqPuzzle.f k bt239.1 bt239.2.1 t224 t225).bind fun t245 => (if t245 = true then (laws_FnExactAddClue.j0 k t228 bt239.2.2 (bt239.2.2 != t228) a0_0 l0_1 a1_0 a1_1 a1_2 a1_3 t224 t225 t230 t231 bt239.1 bt239.2.1) else (laws_FnExactAddClue.j0 k t228 bt239.2.2 true a0_0 l0_1 a1_0 a1_1 a1_2 a1_3 t224 t225 t230 t231 bt239.1 bt239.2.1))))) = some r := H
    have A13 := Aside0.mk A130
    clear A130
    replace H := Option.bind_eq_some_iff.mp H
    obtain ⟨⟨t235, t236, t237, t238⟩, A140, H⟩ := H
    replace H : ((impl_AddClue.f k t230 t231 t235 t236 t237 t238).bind fun bt239 => ((laws_eqPuzzle.f k bt239.1 bt239.2.1 t224 t225).bind fun t245 => (if t245 = true then (laws_FnExactAddClue.j0 k t228 bt239.2.2 (bt239.2.2 != t228) a0_0 l0_1 a1_0 a1_1 a1_2 a1_3 t224 t225 t230 t231 bt239.1 bt239.2.1) else (laws_FnExactAddClue.j0 k t228 bt239.2.2 true a0_0 l0_1 a1_0 a1_1 a1_2 a1_3 t224 t225 t230 t231 bt239.1 bt239.2.1)))) = some r := H
    have A14 := Aside0.mk A140
    clear A140
    replace H := Option.bind_eq_some_iff.mp H
    obtain ⟨⟨t239, t240, t243⟩, A150, H⟩ := H
    replace H : ((laws_eqPuzzle.f k t239 t240 t224 t225).bind fun t245 => (if t245 = true then (laws_FnExactAddClue.j0 k t228 t243 (t243 != t228) a0_0 l0_1 a1_0 a1_1 a1_2 a1_3 t224 t225 t230 t231 t239 t240) else (laws_FnExactAddClue.j0 k t228 t243 true a0_0 l0_1 a1_0 a1_1 a1_2 a1_3 t224 t225 t230 t231 t239 t240))) = some r := H
    have A15 := Aside0.mk A150
    clear A150
    have HC16 := Aside0.mk H
    clear H
    go_enter Try.func5, Try.ntmps5
    try go_wp2_with (first | ((with_reducible refine gate_dst (N := 2) rfl ?_); refine box_event ?hg (N := 2) ?hd (cs := #[.int .i64 a0_0, .slice A0_1 l0_1.length c0_1]) (t := 24) ?hr ?_; (case hd => rfl); (case hg => rfl); (case hr => first | (go_simp; done) | (go_simp; rfl)); intro gb213 hg w17 hbox hb; have n0_ := Aside0.mk (below_step (hb_) hb); have n1_ := Aside0.mk (hbox); have n2_ := Aside0.mk ((by rw [hg]; exact (below_size (hb_)) : w.heap.size ≤ gb213)); have n3_ := Aside0.mk ((by rw [hg]; exact (below_size (hb_)) : w.heap.size ≤ gb213)); clear HB; have HB := n0_; have BK213 := n1_; have GW213 := n2_; have GE213 := n3_; clear n0_ n1_ n2_ n3_; clear hb hbox hg) | ((with_reducible refine gate_dst (N := 3) rfl ?_); refine box_event ?hg (N := 3) ?hd (cs := #[.int .i64 a1_0, .int .i64 a1_1, .int .i64 a1_2, .int .i64 a1_3]) (t := 34) ?hr ?_; (case hd => rfl); (case hg => rfl); (case hr => first | (go_simp; done) | (go_simp; rfl)); intro gb214 hg w18 hbox hb; have n0_ := bb_ BK213 hb; have n1_ := Aside0.mk (below_step (hbg_) hb); have n2_ := Aside0.mk (hbox); have n3_ := Aside0.mk ((by rw [hg]; exact (below_size (hbg_)) : w.heap.size ≤ gb214)); have n4_ := Aside0.mk ((by rw [hg]; exact (below_size (hbg_)) : w.heap.size ≤ gb214)); have n5_ := Aside0.mk ((by rw [hg]; exact Nat.ne_of_lt (blk_lt (bk_ BK213.out)) : gb213 ≠ gb214)); have n6_ := Aside0.mk ((by rw [hg]; exact Nat.ne_of_gt (blk_lt (bk_ BK213.out)) : gb214 ≠ gb213)); clear BK213; clear HB; have BK213 := n0_; have HB := n1_; have BK214 := n2_; have GW214 := n3_; have GE214 := n4_; have NB213_214 := n5_; have NB214_213 := n6_; clear n0_ n1_ n2_ n3_ n4_ n5_ n6_; clear hb hbox hg; have hnb19 := NB213_214.out; have hnc19 := NB214_213.out; have hcz20_0 : w18.cell? ⟨gb213, 0, none⟩ = some (.int .i64 a0_0) := (blk_cell BK213.out 0).trans rfl; have hcz20_1 : w18.cell? ⟨gb213, 1, none⟩ = some (.slice A0_1 l0_1.length c0_1) := (blk_cell BK213.out 1).trans rfl; have hfz20_0 := blk_frozen BK213.out 0; have hfz20_1 := blk_frozen BK213.out 1) | ((with_reducible refine gate_callee (f := 15) rfl ?_); refine goesL_ (some 18) rfl rfl Try.func15 (by kernel_rfl) rfl #[.agg #[.int .i64 a0_0, .slice A0_1 l0_1.length c0_1], .int .i64 1048576] rfl (by (try simp only [List.map_toArray, List.map_cons, List.map_nil]); first | done | rfl | (simp only [List.length_drop, List.length_take]; rfl)) ?_; (with_reducible refine (laws_szPuzzle.calls a0_0 _ _ l0_1 1048576 t215 _ ?side1 ?side2 A3.out).mono ?_); (case side1 => repeat (first | exact (Kd.C_below HR0_1.out HB.out) | (with_reducible refine Kd.C_alloc ?_ _) | (with_reducible refine Kd.C_drewN ?_ _) | (with_reducible refine Kd.C_drew ?_))); (case side2 => exact HC0_1.out); rintro e w21 ⟨rfl, hb⟩; refine ⟨_, rfl, ?_⟩; have n0_ := bb_ BK213 hb; have n1_ := bb_ BK214 hb; have n2_ := Aside0.mk (below_step (hbg_) hb); clear BK213; clear BK214; clear HB; have BK213 := n0_; have BK214 := n1_; have HB := n2_; clear n0_ n1_ n2_; (try clear hb); (try clear hb2); (try clear hk); (try clear hi)))
    have n0_ := Aside0.mk (blk_drew BK213.out)
    have n1_ := Aside0.mk (blk_drew BK214.out)
    have n2_ := Aside0.mk (below_drew1 HB.out)
    clear BK213
    clear BK214
    clear HB
    have BK213 := n0_
    have BK214 := n1_
    have HB := n2_
    clear n0_ n1_ n2_
    refine start_ (n := 11) (S := fun w' => w'.cell? ⟨gb213, 0, none⟩ = some (.int .i64 a0_0) ∧ w'.cell? ⟨gb213, 1, none⟩ = some (.slice A0_1 l0_1.length c0_1) ∧ w'.cell? ⟨gb214, 0, none⟩ = some (.int .i64 a1_0) ∧ w'.cell? ⟨gb214, 1, none⟩ = some (.int .i64 a1_1) ∧ w'.cell? ⟨gb214, 2, none⟩ = some (.int .i64 a1_2) ∧ w'.cell? ⟨gb214, 3, none⟩ = some (.int .i64 a1_3)) (ds := []) #[false, false, false, false, false, false, false, false, false, false, false] (by kernel_rfl) rfl rfl ⟨(blk_cell BK213.out 0).trans rfl, (blk_cell BK213.out 1).trans rfl, (blk_cell BK214.out 0).trans rfl, (blk_cell BK214.out 1).trans rfl, (blk_cell BK214.out 2).trans rfl, (blk_cell BK214.out 3).trans rfl⟩ (fun hHeld => ?_); refine with_tabW laws_FnExactAddClue.tab5 laws_FnExactAddClue.bits5 (fun HT_ HW_ => ?_)
    generalize w21.drew = w22 at BK213 BK214 HB hHeld ⊢
    refine take_ (i := 0) (N := some 22) (v := ?_) (a' := ?_) #[true, false, false, false, false, false, false, false, false, false, false] rfl rfl (take_ofW HT_.out HW_.out (by kernel_rfl)) (fun _ _ _ h => h) (Or.inl ⟨by rfl, ?_⟩) hHeld ?_ ?_
    rotate_left
    · rintro w' ⟨s0, s1, s2, s3, s4, s5⟩
      go_simp
      with_reducible rfl
    rotate_left
    · simp only [Act.put, sA, sB, sC, i64_w, i32_w]
      rfl
    refine take_ (i := 2) (N := some 24) (v := ?_) (a' := ?_) #[true, false, true, false, false, false, false, false, false, false, false] rfl rfl (take_ofW HT_.out HW_.out (by kernel_rfl)) (fun _ _ _ h => h) (Or.inl ⟨by rfl, ?_⟩) hHeld ?_ ?_
    rotate_left
    · rintro w' ⟨s0, s1, s2, s3, s4, s5⟩
      go_simp
      with_reducible rfl
    rotate_left
    · simp only [Act.put, sA, sB, sC, i64_w, i32_w]
      rfl
    refine join_ (σ := Value × Value × Nat) 2 #[true, true, true, true, true, true, true, true, true, false, false] (fun s_ => [(23, .agg #[.int .i64 t216, s_.1]), (25, .agg #[.int .i64 t220, .int .i64 t221, .int .i64 t222, .int .i64 t223]), (26, .tuple #[.agg #[.int .i64 t224, s_.2.1], .bool t228]), (6, .pointer (some ⟨s_.2.2, 0, none⟩)), (21, .tuple #[.agg #[.int .i64 t224, s_.2.1], .bool t228]), (27, .agg #[.int .i64 t224, s_.2.1]), (28, .bool t228)]) (fun s_ w' => (w'.cell? ⟨gb213, 0, none⟩ = some (.int .i64 a0_0) ∧ w'.cell? ⟨gb213, 1, none⟩ = some (.slice A0_1 l0_1.length c0_1) ∧ w'.cell? ⟨gb214, 0, none⟩ = some (.int .i64 a1_0) ∧ w'.cell? ⟨gb214, 1, none⟩ = some (.int .i64 a1_1) ∧ w'.cell? ⟨gb214, 2, none⟩ = some (.int .i64 a1_2) ∧ w'.cell? ⟨gb214, 3, none⟩ = some (.int .i64 a1_3)) ∧ (Kd.R k39 39 w' w.heap.size (fun k_ => some k_ ≠ (s_.2.1 : Value).ownBlock) s_.1 t217) ∧ (Kd.R k39 39 w' w.heap.size (fun k_ => some k_ ≠ (s_.1 : Value).ownBlock) s_.2.1 t225) ∧ (w'.heap[gb213]? = some (.cells #[.int .i64 a0_0, .slice A0_1 l0_1.length c0_1] 24 (0, 0))) ∧ (w'.heap[gb214]? = some (.cells #[.int .i64 a1_0, .int .i64 a1_1, .int .i64 a1_2, .int .i64 a1_3] 34 (0, 0))) ∧ (w'.heap[s_.2.2]? = some (.cells #[.int .i64 0, .slice none 0 0] 29 (0, 0))) ∧ (w.heap.size ≤ s_.2.2) ∧ (w.heap.size ≤ s_.2.2) ∧ (gb213 ≠ s_.2.2) ∧ (s_.2.2 ≠ gb213) ∧ (gb214 ≠ s_.2.2) ∧ (s_.2.2 ≠ gb214) ∧ (Below w.heap.size w w')) ?_ ?_
    rotate_left
    · intro hCont
      refine two_ (i := 1) (j := 8) (Ni := some 23) (Nj := some 6) #[true, true, true, false, false, false, false, false, false, false, false] #[true, false, true, false, false, false, false, false, true, false, false] rfl rfl rfl rfl (two_of HT_.out (by kernel_rfl)) (by decide) (by decide) (fun K hK => ?_) (fun K hK => ?_)
      · skip
        refine goes_ Try.func17 (by kernel_rfl) rfl #[.agg #[.int .i64 a0_0, .slice A0_1 l0_1.length c0_1]] (by rfl) rfl rfl (by (try simp only [List.map_toArray, List.map_cons, List.map_nil]); first | done | rfl | (simp only [List.length_drop, List.length_take]; rfl)) ?_
        with_reducible refine (laws_toPuzzle.calls k a0_0 _ _ l0_1 t216 t217 _ ?side1 ?side2 A10.out).mono ?_
        (case side1 => repeat (first | exact (Kd.C_below HR0_1.out HB.out) | (with_reducible refine Kd.C_alloc ?_ _) | (with_reducible refine Kd.C_drewN ?_ _) | (with_reducible refine Kd.C_drew ?_)))
        (case side2 => exact HC0_1.out)
        rintro e w23 ⟨v218, rfl, ho0, hb⟩
        refine ⟨_, rfl, ?_⟩
        have n0_ := Aside0.mk (Kd.R_lower ho0 (below_size (hbg_)))
        have n1_ := bb_ BK213 hb
        have n2_ := bb_ BK214 hb
        have n3_ := Aside0.mk (below_step (hbg_) hb)
        clear BK213
        clear BK214
        clear HB
        have HO219 := n0_
        have BK213 := n1_
        have BK214 := n2_
        have HB := n3_
        clear n0_ n1_ n2_ n3_
        (try clear hb)
        (try clear hb2)
        (try clear hk)
        (try clear hi)
        (try clear ho0)
        refine hK.out _ _ ⟨(blk_cell BK213.out 0).trans rfl, (blk_cell BK213.out 1).trans rfl, (blk_cell BK214.out 0).trans rfl, (blk_cell BK214.out 1).trans rfl, (blk_cell BK214.out 2).trans rfl, (blk_cell BK214.out 3).trans rfl⟩ (fun hHeld => ?_)
        clear hK K
        refine norm_ (a' := ?_) ?_ ?_
        rotate_left
        · show Act.put _ (some 23) _ = _
          simp only [Act.put, sA, sB, sC, i64_w, i32_w]
          rfl
        refine two_ (i := 3) (j := 8) (Ni := some 25) (Nj := some 6) #[true, true, true, true, false, false, false, false, false, false, false] #[true, true, true, false, false, false, false, false, true, false, false] rfl rfl rfl rfl (two_of HT_.out (by kernel_rfl)) (by decide) (by decide) (fun K hK => ?_) (fun K hK => ?_)
        · skip
          refine goes_ Try.func21 (by kernel_rfl) rfl #[.agg #[.int .i64 a1_0, .int .i64 a1_1, .int .i64 a1_2, .int .i64 a1_3]] (by rfl) rfl rfl (by (try simp only [List.map_toArray, List.map_cons, List.map_nil]); first | done | rfl | (simp only [List.length_drop, List.length_take]; rfl)) ?_
          with_reducible refine (laws_toClue.calls a1_0 a1_1 a1_2 a1_3 t220 t221 t222 t223 _ A11.out).mono ?_
          rintro e w24 ⟨rfl, hb⟩
          refine ⟨_, rfl, ?_⟩
          have n0_ := Aside0.mk (Kd.R_below (rk_ HO219.out) hb)
          have n1_ := bb_ BK213 hb
          have n2_ := bb_ BK214 hb
          have n3_ := Aside0.mk (below_step (hbg_) hb)
          clear HO219
          clear BK213
          clear BK214
          clear HB
          have HO219 := n0_
          have BK213 := n1_
          have BK214 := n2_
          have HB := n3_
          clear n0_ n1_ n2_ n3_
          (try clear hb)
          (try clear hb2)
          (try clear hk)
          (try clear hi)
          obtain ⟨Ao25, co25, eo25⟩ := Kd.R_slice HO219.out
          (first | subst eo25 | (injection eo25 with f1_ f2_ f3_; have f4_ := f1_.symm; have f5_ := f3_.symm; clear f1_ f2_ f3_; subst f4_; subst f5_))
          refine hK.out _ _ ⟨(blk_cell BK213.out 0).trans rfl, (blk_cell BK213.out 1).trans rfl, (blk_cell BK214.out 0).trans rfl, (blk_cell BK214.out 1).trans rfl, (blk_cell BK214.out 2).trans rfl, (blk_cell BK214.out 3).trans rfl⟩ (fun hHeld => ?_)
          clear hK K
          refine norm_ (a' := ?_) ?_ ?_
          rotate_left
          · show Act.put _ (some 25) _ = _
            simp only [Act.put, sA, sB, sC, i64_w, i32_w]
            rfl
          refine two_ (i := 4) (j := 8) (Ni := some 26) (Nj := some 6) #[true, true, true, true, true, false, false, false, false, false, false] #[true, true, true, true, false, false, false, false, true, false, false] rfl rfl rfl rfl (two_of HT_.out (by kernel_rfl)) (by decide) (by decide) (fun K hK => ?_) (fun K hK => ?_)
          · skip
            refine goes_ Try.func24 (by kernel_rfl) rfl #[.agg #[.int .i64 t216, .slice Ao25 t217.length co25], .agg #[.int .i64 t220, .int .i64 t221, .int .i64 t222, .int .i64 t223]] (by rfl) rfl rfl (by (try simp only [List.map_toArray, List.map_cons, List.map_nil]); first | done | rfl | (simp only [List.length_drop, List.length_take]; rfl)) ?_
            with_reducible refine (spec_AddClue.calls k t216 _ _ t217 t220 t221 t222 t223 t224 t225 t228 _ ?side1 ?side2 A12.out).mono ?_
            (case side1 => repeat (first | exact (Kd.R_reads' HO219.out).2.2 | (with_reducible refine Kd.C_alloc ?_ _) | (with_reducible refine Kd.C_drewN ?_ _) | (with_reducible refine Kd.C_drew ?_)))
            (case side2 => exact (Kd.R_reads' HO219.out).2.1)
            rintro e w26 ⟨v226, rfl, ho0, hb⟩
            refine ⟨_, rfl, ?_⟩
            have n0_ := Aside0.mk (Kd.R_elder' (rk_ HO219.out) (Kd.R_base ho0) hb)
            have n1_ := Aside0.mk (Kd.R_lower (Kd.R_new' ho0 (Kd.R_lt (rk_ HO219.out))) (below_size (hbg_)))
            have n2_ := bb_ BK213 hb
            have n3_ := bb_ BK214 hb
            have n4_ := Aside0.mk (below_step (hbg_) hb)
            clear HO219
            clear BK213
            clear BK214
            clear HB
            have HO219 := n0_
            have HO227 := n1_
            have BK213 := n2_
            have BK214 := n3_
            have HB := n4_
            clear n0_ n1_ n2_ n3_ n4_
            (try clear hb)
            (try clear hb2)
            (try clear hk)
            (try clear hi)
            (try clear ho0)
            refine hK.out _ _ ⟨(blk_cell BK213.out 0).trans rfl, (blk_cell BK213.out 1).trans rfl, (blk_cell BK214.out 0).trans rfl, (blk_cell BK214.out 1).trans rfl, (blk_cell BK214.out 2).trans rfl, (blk_cell BK214.out 3).trans rfl⟩ (fun hHeld => ?_)
            clear hK K
            refine norm_ (a' := ?_) ?_ ?_
            rotate_left
            · show Act.put _ (some 26) _ = _
              simp only [Act.put, sA, sB, sC, i64_w, i32_w]
              rfl
            refine pure_ (i := 5) (N := some 21) (v := ?_) (a' := ?_) #[true, true, true, true, true, true, false, false, false, false, false] rfl rfl (any_of HT_.out (by kernel_rfl)) (fun _ _ _ h => h) (Or.inl ⟨by rfl, ?_⟩) ?_ ?_
            rotate_left
            · intro w'
              go_simp
              with_reducible rfl
            rotate_left
            · simp only [Act.put, sA, sB, sC, i64_w, i32_w]
              rfl
            refine pure_ (i := 6) (N := some 27) (v := ?_) (a' := ?_) #[true, true, true, true, true, true, true, false, false, false, false] rfl rfl (any_of HT_.out (by kernel_rfl)) (fun _ _ _ h => h) (Or.inl ⟨by rfl, ?_⟩) ?_ ?_
            rotate_left
            · intro w'
              go_simp
              with_reducible rfl
            rotate_left
            · simp only [Act.put, sA, sB, sC, i64_w, i32_w]
              rfl
            refine pure_ (i := 7) (N := some 28) (v := ?_) (a' := ?_) #[true, true, true, true, true, true, true, true, false, false, false] rfl rfl (any_of HT_.out (by kernel_rfl)) (fun _ _ _ h => h) (Or.inl ⟨by rfl, ?_⟩) ?_ ?_
            rotate_left
            · intro w'
              go_simp
              with_reducible rfl
            rotate_left
            · simp only [Act.put, sA, sB, sC, i64_w, i32_w]
              rfl
            refine one_ (i := 8) (N := some 6) #[true, true, true, true, true, true, true, true, true, false, false] rfl rfl (one_of HT_.out (by kernel_rfl)) (by decide) (fun K hK => ?_)
            refine box_step ?hg (N := 6) ?hd (cs := #[.int .i64 0, .slice none 0 0]) (t := 29) ?hr ?_; (case hd => rfl); (case hg => rfl); (case hr => first | (go_simp; done) | (go_simp; rfl))
            intro gb229 hg w27 hbox hb
            have n0_ := Aside0.mk (Kd.R_below (rk_ HO219.out) hb)
            have n1_ := Aside0.mk (Kd.R_below (rk_ HO227.out) hb)
            have n2_ := bb_ BK213 hb
            have n3_ := bb_ BK214 hb
            have n4_ := Aside0.mk (below_step (hbg_) hb)
            have n5_ := Aside0.mk (hbox)
            have n6_ := Aside0.mk ((by rw [hg]; exact (below_size (hbg_)) : w.heap.size ≤ gb229))
            have n7_ := Aside0.mk ((by rw [hg]; exact (below_size (hbg_)) : w.heap.size ≤ gb229))
            have n8_ := Aside0.mk ((by rw [hg]; exact Nat.ne_of_lt (blk_lt (bk_ BK213.out)) : gb213 ≠ gb229))
            have n9_ := Aside0.mk ((by rw [hg]; exact Nat.ne_of_gt (blk_lt (bk_ BK213.out)) : gb229 ≠ gb213))
            have n10_ := Aside0.mk ((by rw [hg]; exact Nat.ne_of_lt (blk_lt (bk_ BK214.out)) : gb214 ≠ gb229))
            have n11_ := Aside0.mk ((by rw [hg]; exact Nat.ne_of_gt (blk_lt (bk_ BK214.out)) : gb229 ≠ gb214))
            clear HO219
            clear HO227
            clear BK213
            clear BK214
            clear HB
            have HO219 := n0_
            have HO227 := n1_
            have BK213 := n2_
            have BK214 := n3_
            have HB := n4_
            have BK229 := n5_
            have GW229 := n6_
            have GE229 := n7_
            have NB213_229 := n8_
            have NB229_213 := n9_
            have NB214_229 := n10_
            have NB229_214 := n11_
            clear n0_ n1_ n2_ n3_ n4_ n5_ n6_ n7_ n8_ n9_ n10_ n11_
            clear hb hbox hg
            refine hK.out _ _ ⟨(blk_cell BK213.out 0).trans rfl, (blk_cell BK213.out 1).trans rfl, (blk_cell BK214.out 0).trans rfl, (blk_cell BK214.out 1).trans rfl, (blk_cell BK214.out 2).trans rfl, (blk_cell BK214.out 3).trans rfl⟩ (fun hHeld => ?_)
            clear hK K
            refine norm_ (a' := ?_) ?_ ?_
            rotate_left
            · show Act.put _ (some 6) _ = _
              simp only [Act.put, sA, sB, sC, i64_w, i32_w]
              rfl
            exact norm_ (by simp only [putAll, Act.put, List.setIfInBounds_toArray, List.set_cons_zero, List.set_cons_succ]) (hCont (.slice Ao25 t217.length co25, v226, gb229) _ ⟨hHeld, (by (with_reducible repeat (first | apply Kd.R_alloc | apply Kd.R_drewN | apply Kd.R_drew)); exact Kd.R_mono HO219.out (fun _ hk => hk.2)), (by (with_reducible repeat (first | apply Kd.R_alloc | apply Kd.R_drewN | apply Kd.R_drew)); exact Kd.R_mono HO227.out (fun _ hk => hk.2)), (bk_ BK213.out), (bk_ BK214.out), (bk_ BK229.out), GW229.out, GE229.out, NB213_229.out, NB229_213.out, NB214_229.out, NB229_214.out, (hbg_)⟩)
          · skip
            refine box_step ?hg (N := 6) ?hd (cs := #[.int .i64 0, .slice none 0 0]) (t := 29) ?hr ?_; (case hd => rfl); (case hg => rfl); (case hr => first | (go_simp; done) | (go_simp; rfl))
            intro gb229 hg w25 hbox hb
            have n0_ := Aside0.mk (Kd.R_below (rk_ HO219.out) hb)
            have n1_ := bb_ BK213 hb
            have n2_ := bb_ BK214 hb
            have n3_ := Aside0.mk (below_step (hbg_) hb)
            have n4_ := Aside0.mk (hbox)
            have n5_ := Aside0.mk ((by rw [hg]; exact (below_size (hbg_)) : w.heap.size ≤ gb229))
            have n6_ := Aside0.mk ((by rw [hg]; exact (below_size (hbg_)) : w.heap.size ≤ gb229))
            have n7_ := Aside0.mk ((by rw [hg]; exact Nat.ne_of_lt (blk_lt (bk_ BK213.out)) : gb213 ≠ gb229))
            have n8_ := Aside0.mk ((by rw [hg]; exact Nat.ne_of_gt (blk_lt (bk_ BK213.out)) : gb229 ≠ gb213))
            have n9_ := Aside0.mk ((by rw [hg]; exact Nat.ne_of_lt (blk_lt (bk_ BK214.out)) : gb214 ≠ gb229))
            have n10_ := Aside0.mk ((by rw [hg]; exact Nat.ne_of_gt (blk_lt (bk_ BK214.out)) : gb229 ≠ gb214))
            clear HO219
            clear BK213
            clear BK214
            clear HB
            have HO219 := n0_
            have BK213 := n1_
            have BK214 := n2_
            have HB := n3_
            have BK229 := n4_
            have GW229 := n5_
            have GE229 := n6_
            have NB213_229 := n7_
            have NB229_213 := n8_
            have NB214_229 := n9_
            have NB229_214 := n10_
            clear n0_ n1_ n2_ n3_ n4_ n5_ n6_ n7_ n8_ n9_ n10_
            clear hb hbox hg
            obtain ⟨Ao26, co26, eo26⟩ := Kd.R_slice HO219.out
            (first | subst eo26 | (injection eo26 with f1_ f2_ f3_; have f4_ := f1_.symm; have f5_ := f3_.symm; clear f1_ f2_ f3_; subst f4_; subst f5_))
            refine hK.out _ _ ⟨(blk_cell BK213.out 0).trans rfl, (blk_cell BK213.out 1).trans rfl, (blk_cell BK214.out 0).trans rfl, (blk_cell BK214.out 1).trans rfl, (blk_cell BK214.out 2).trans rfl, (blk_cell BK214.out 3).trans rfl⟩ (fun hHeld => ?_)
            clear hK K
            refine norm_ (a' := ?_) ?_ ?_
            rotate_left
            · show Act.put _ (some 6) _ = _
              simp only [Act.put, sA, sB, sC, i64_w, i32_w]
              rfl
            refine one_ (i := 4) (N := some 26) #[true, true, true, true, true, false, false, false, true, false, false] rfl rfl (one_of HT_.out (by kernel_rfl)) (by decide) (fun K hK => ?_)
            refine goes_ Try.func24 (by kernel_rfl) rfl #[.agg #[.int .i64 t216, .slice Ao26 t217.length co26], .agg #[.int .i64 t220, .int .i64 t221, .int .i64 t222, .int .i64 t223]] (by rfl) rfl rfl (by (try simp only [List.map_toArray, List.map_cons, List.map_nil]); first | done | rfl | (simp only [List.length_drop, List.length_take]; rfl)) ?_
            with_reducible refine (spec_AddClue.calls k t216 _ _ t217 t220 t221 t222 t223 t224 t225 t228 _ ?side1 ?side2 A12.out).mono ?_
            (case side1 => repeat (first | exact (Kd.R_reads' HO219.out).2.2 | (with_reducible refine Kd.C_alloc ?_ _) | (with_reducible refine Kd.C_drewN ?_ _) | (with_reducible refine Kd.C_drew ?_)))
            (case side2 => exact (Kd.R_reads' HO219.out).2.1)
            rintro e w27 ⟨v226, rfl, ho0, hb⟩
            refine ⟨_, rfl, ?_⟩
            have n0_ := Aside0.mk (Kd.R_elder' (rk_ HO219.out) (Kd.R_base ho0) hb)
            have n1_ := Aside0.mk (Kd.R_lower (Kd.R_new' ho0 (Kd.R_lt (rk_ HO219.out))) (below_size (hbg_)))
            have n2_ := bb_ BK213 hb
            have n3_ := bb_ BK214 hb
            have n4_ := bb_ BK229 hb
            have n5_ := Aside0.mk (below_step (hbg_) hb)
            clear HO219
            clear BK213
            clear BK214
            clear BK229
            clear HB
            have HO219 := n0_
            have HO227 := n1_
            have BK213 := n2_
            have BK214 := n3_
            have BK229 := n4_
            have HB := n5_
            clear n0_ n1_ n2_ n3_ n4_ n5_
            (try clear hb)
            (try clear hb2)
            (try clear hk)
            (try clear hi)
            (try clear ho0)
            refine hK.out _ _ ⟨(blk_cell BK213.out 0).trans rfl, (blk_cell BK213.out 1).trans rfl, (blk_cell BK214.out 0).trans rfl, (blk_cell BK214.out 1).trans rfl, (blk_cell BK214.out 2).trans rfl, (blk_cell BK214.out 3).trans rfl⟩ (fun hHeld => ?_)
            clear hK K
            refine norm_ (a' := ?_) ?_ ?_
            rotate_left
            · show Act.put _ (some 26) _ = _
              simp only [Act.put, sA, sB, sC, i64_w, i32_w]
              rfl
            refine pure_ (i := 5) (N := some 21) (v := ?_) (a' := ?_) #[true, true, true, true, true, true, false, false, true, false, false] rfl rfl (any_of HT_.out (by kernel_rfl)) (fun _ _ _ h => h) (Or.inl ⟨by rfl, ?_⟩) ?_ ?_
            rotate_left
            · intro w'
              go_simp
              with_reducible rfl
            rotate_left
            · simp only [Act.put, sA, sB, sC, i64_w, i32_w]
              rfl
            refine pure_ (i := 6) (N := some 27) (v := ?_) (a' := ?_) #[true, true, true, true, true, true, true, false, true, false, false] rfl rfl (any_of HT_.out (by kernel_rfl)) (fun _ _ _ h => h) (Or.inl ⟨by rfl, ?_⟩) ?_ ?_
            rotate_left
            · intro w'
              go_simp
              with_reducible rfl
            rotate_left
            · simp only [Act.put, sA, sB, sC, i64_w, i32_w]
              rfl
            refine pure_ (i := 7) (N := some 28) (v := ?_) (a' := ?_) #[true, true, true, true, true, true, true, true, true, false, false] rfl rfl (any_of HT_.out (by kernel_rfl)) (fun _ _ _ h => h) (Or.inl ⟨by rfl, ?_⟩) ?_ ?_
            rotate_left
            · intro w'
              go_simp
              with_reducible rfl
            rotate_left
            · simp only [Act.put, sA, sB, sC, i64_w, i32_w]
              rfl
            exact norm_ (by simp only [putAll, Act.put, List.setIfInBounds_toArray, List.set_cons_zero, List.set_cons_succ]) (hCont (.slice Ao26 t217.length co26, v226, gb229) _ ⟨hHeld, (by (with_reducible repeat (first | apply Kd.R_alloc | apply Kd.R_drewN | apply Kd.R_drew)); exact Kd.R_mono HO219.out (fun _ hk => hk.2)), (by (with_reducible repeat (first | apply Kd.R_alloc | apply Kd.R_drewN | apply Kd.R_drew)); exact Kd.R_mono HO227.out (fun _ hk => hk.2)), (bk_ BK213.out), (bk_ BK214.out), (bk_ BK229.out), GW229.out, GE229.out, NB213_229.out, NB229_213.out, NB214_229.out, NB229_214.out, (hbg_)⟩)
        · skip
          refine box_step ?hg (N := 6) ?hd (cs := #[.int .i64 0, .slice none 0 0]) (t := 29) ?hr ?_; (case hd => rfl); (case hg => rfl); (case hr => first | (go_simp; done) | (go_simp; rfl))
          intro gb229 hg w24 hbox hb
          have n0_ := Aside0.mk (Kd.R_below (rk_ HO219.out) hb)
          have n1_ := bb_ BK213 hb
          have n2_ := bb_ BK214 hb
          have n3_ := Aside0.mk (below_step (hbg_) hb)
          have n4_ := Aside0.mk (hbox)
          have n5_ := Aside0.mk ((by rw [hg]; exact (below_size (hbg_)) : w.heap.size ≤ gb229))
          have n6_ := Aside0.mk ((by rw [hg]; exact (below_size (hbg_)) : w.heap.size ≤ gb229))
          have n7_ := Aside0.mk ((by rw [hg]; exact Nat.ne_of_lt (blk_lt (bk_ BK213.out)) : gb213 ≠ gb229))
          have n8_ := Aside0.mk ((by rw [hg]; exact Nat.ne_of_gt (blk_lt (bk_ BK213.out)) : gb229 ≠ gb213))
          have n9_ := Aside0.mk ((by rw [hg]; exact Nat.ne_of_lt (blk_lt (bk_ BK214.out)) : gb214 ≠ gb229))
          have n10_ := Aside0.mk ((by rw [hg]; exact Nat.ne_of_gt (blk_lt (bk_ BK214.out)) : gb229 ≠ gb214))
          clear HO219
          clear BK213
          clear BK214
          clear HB
          have HO219 := n0_
          have BK213 := n1_
          have BK214 := n2_
          have HB := n3_
          have BK229 := n4_
          have GW229 := n5_
          have GE229 := n6_
          have NB213_229 := n7_
          have NB229_213 := n8_
          have NB214_229 := n9_
          have NB229_214 := n10_
          clear n0_ n1_ n2_ n3_ n4_ n5_ n6_ n7_ n8_ n9_ n10_
          clear hb hbox hg
          refine hK.out _ _ ⟨(blk_cell BK213.out 0).trans rfl, (blk_cell BK213.out 1).trans rfl, (blk_cell BK214.out 0).trans rfl, (blk_cell BK214.out 1).trans rfl, (blk_cell BK214.out 2).trans rfl, (blk_cell BK214.out 3).trans rfl⟩ (fun hHeld => ?_)
          clear hK K
          refine norm_ (a' := ?_) ?_ ?_
          rotate_left
          · show Act.put _ (some 6) _ = _
            simp only [Act.put, sA, sB, sC, i64_w, i32_w]
            rfl
          refine one_ (i := 3) (N := some 25) #[true, true, true, true, false, false, false, false, true, false, false] rfl rfl (one_of HT_.out (by kernel_rfl)) (by decide) (fun K hK => ?_)
          refine goes_ Try.func21 (by kernel_rfl) rfl #[.agg #[.int .i64 a1_0, .int .i64 a1_1, .int .i64 a1_2, .int .i64 a1_3]] (by rfl) rfl rfl (by (try simp only [List.map_toArray, List.map_cons, List.map_nil]); first | done | rfl | (simp only [List.length_drop, List.length_take]; rfl)) ?_
          with_reducible refine (laws_toClue.calls a1_0 a1_1 a1_2 a1_3 t220 t221 t222 t223 _ A11.out).mono ?_
          rintro e w25 ⟨rfl, hb⟩
          refine ⟨_, rfl, ?_⟩
          have n0_ := Aside0.mk (Kd.R_below (rk_ HO219.out) hb)
          have n1_ := bb_ BK213 hb
          have n2_ := bb_ BK214 hb
          have n3_ := bb_ BK229 hb
          have n4_ := Aside0.mk (below_step (hbg_) hb)
          clear HO219
          clear BK213
          clear BK214
          clear BK229
          clear HB
          have HO219 := n0_
          have BK213 := n1_
          have BK214 := n2_
          have BK229 := n3_
          have HB := n4_
          clear n0_ n1_ n2_ n3_ n4_
          (try clear hb)
          (try clear hb2)
          (try clear hk)
          (try clear hi)
          obtain ⟨Ao26, co26, eo26⟩ := Kd.R_slice HO219.out
          (first | subst eo26 | (injection eo26 with f1_ f2_ f3_; have f4_ := f1_.symm; have f5_ := f3_.symm; clear f1_ f2_ f3_; subst f4_; subst f5_))
          refine hK.out _ _ ⟨(blk_cell BK213.out 0).trans rfl, (blk_cell BK213.out 1).trans rfl, (blk_cell BK214.out 0).trans rfl, (blk_cell BK214.out 1).trans rfl, (blk_cell BK214.out 2).trans rfl, (blk_cell BK214.out 3).trans rfl⟩ (fun hHeld => ?_)
          clear hK K
          refine norm_ (a' := ?_) ?_ ?_
          rotate_left
          · show Act.put _ (some 25) _ = _
            simp only [Act.put, sA, sB, sC, i64_w, i32_w]
            rfl
          refine one_ (i := 4) (N := some 26) #[true, true, true, true, true, false, false, false, true, false, false] rfl rfl (one_of HT_.out (by kernel_rfl)) (by decide) (fun K hK => ?_)
          refine goes_ Try.func24 (by kernel_rfl) rfl #[.agg #[.int .i64 t216, .slice Ao26 t217.length co26], .agg #[.int .i64 t220, .int .i64 t221, .int .i64 t222, .int .i64 t223]] (by rfl) rfl rfl (by (try simp only [List.map_toArray, List.map_cons, List.map_nil]); first | done | rfl | (simp only [List.length_drop, List.length_take]; rfl)) ?_
          with_reducible refine (spec_AddClue.calls k t216 _ _ t217 t220 t221 t222 t223 t224 t225 t228 _ ?side1 ?side2 A12.out).mono ?_
          (case side1 => repeat (first | exact (Kd.R_reads' HO219.out).2.2 | (with_reducible refine Kd.C_alloc ?_ _) | (with_reducible refine Kd.C_drewN ?_ _) | (with_reducible refine Kd.C_drew ?_)))
          (case side2 => exact (Kd.R_reads' HO219.out).2.1)
          rintro e w27 ⟨v226, rfl, ho0, hb⟩
          refine ⟨_, rfl, ?_⟩
          have n0_ := Aside0.mk (Kd.R_elder' (rk_ HO219.out) (Kd.R_base ho0) hb)
          have n1_ := Aside0.mk (Kd.R_lower (Kd.R_new' ho0 (Kd.R_lt (rk_ HO219.out))) (below_size (hbg_)))
          have n2_ := bb_ BK213 hb
          have n3_ := bb_ BK214 hb
          have n4_ := bb_ BK229 hb
          have n5_ := Aside0.mk (below_step (hbg_) hb)
          clear HO219
          clear BK213
          clear BK214
          clear BK229
          clear HB
          have HO219 := n0_
          have HO227 := n1_
          have BK213 := n2_
          have BK214 := n3_
          have BK229 := n4_
          have HB := n5_
          clear n0_ n1_ n2_ n3_ n4_ n5_
          (try clear hb)
          (try clear hb2)
          (try clear hk)
          (try clear hi)
          (try clear ho0)
          refine hK.out _ _ ⟨(blk_cell BK213.out 0).trans rfl, (blk_cell BK213.out 1).trans rfl, (blk_cell BK214.out 0).trans rfl, (blk_cell BK214.out 1).trans rfl, (blk_cell BK214.out 2).trans rfl, (blk_cell BK214.out 3).trans rfl⟩ (fun hHeld => ?_)
          clear hK K
          refine norm_ (a' := ?_) ?_ ?_
          rotate_left
          · show Act.put _ (some 26) _ = _
            simp only [Act.put, sA, sB, sC, i64_w, i32_w]
            rfl
          refine pure_ (i := 5) (N := some 21) (v := ?_) (a' := ?_) #[true, true, true, true, true, true, false, false, true, false, false] rfl rfl (any_of HT_.out (by kernel_rfl)) (fun _ _ _ h => h) (Or.inl ⟨by rfl, ?_⟩) ?_ ?_
          rotate_left
          · intro w'
            go_simp
            with_reducible rfl
          rotate_left
          · simp only [Act.put, sA, sB, sC, i64_w, i32_w]
            rfl
          refine pure_ (i := 6) (N := some 27) (v := ?_) (a' := ?_) #[true, true, true, true, true, true, true, false, true, false, false] rfl rfl (any_of HT_.out (by kernel_rfl)) (fun _ _ _ h => h) (Or.inl ⟨by rfl, ?_⟩) ?_ ?_
          rotate_left
          · intro w'
            go_simp
            with_reducible rfl
          rotate_left
          · simp only [Act.put, sA, sB, sC, i64_w, i32_w]
            rfl
          refine pure_ (i := 7) (N := some 28) (v := ?_) (a' := ?_) #[true, true, true, true, true, true, true, true, true, false, false] rfl rfl (any_of HT_.out (by kernel_rfl)) (fun _ _ _ h => h) (Or.inl ⟨by rfl, ?_⟩) ?_ ?_
          rotate_left
          · intro w'
            go_simp
            with_reducible rfl
          rotate_left
          · simp only [Act.put, sA, sB, sC, i64_w, i32_w]
            rfl
          exact norm_ (by simp only [putAll, Act.put, List.setIfInBounds_toArray, List.set_cons_zero, List.set_cons_succ]) (hCont (.slice Ao26 t217.length co26, v226, gb229) _ ⟨hHeld, (by (with_reducible repeat (first | apply Kd.R_alloc | apply Kd.R_drewN | apply Kd.R_drew)); exact Kd.R_mono HO219.out (fun _ hk => hk.2)), (by (with_reducible repeat (first | apply Kd.R_alloc | apply Kd.R_drewN | apply Kd.R_drew)); exact Kd.R_mono HO227.out (fun _ hk => hk.2)), (bk_ BK213.out), (bk_ BK214.out), (bk_ BK229.out), GW229.out, GE229.out, NB213_229.out, NB229_213.out, NB214_229.out, NB229_214.out, (hbg_)⟩)
      · skip
        refine box_step ?hg (N := 6) ?hd (cs := #[.int .i64 0, .slice none 0 0]) (t := 29) ?hr ?_; (case hd => rfl); (case hg => rfl); (case hr => first | (go_simp; done) | (go_simp; rfl))
        intro gb229 hg w23 hbox hb
        have n0_ := bb_ BK213 hb
        have n1_ := bb_ BK214 hb
        have n2_ := Aside0.mk (below_step (hbg_) hb)
        have n3_ := Aside0.mk (hbox)
        have n4_ := Aside0.mk ((by rw [hg]; exact (below_size (hbg_)) : w.heap.size ≤ gb229))
        have n5_ := Aside0.mk ((by rw [hg]; exact (below_size (hbg_)) : w.heap.size ≤ gb229))
        have n6_ := Aside0.mk ((by rw [hg]; exact Nat.ne_of_lt (blk_lt (bk_ BK213.out)) : gb213 ≠ gb229))
        have n7_ := Aside0.mk ((by rw [hg]; exact Nat.ne_of_gt (blk_lt (bk_ BK213.out)) : gb229 ≠ gb213))
        have n8_ := Aside0.mk ((by rw [hg]; exact Nat.ne_of_lt (blk_lt (bk_ BK214.out)) : gb214 ≠ gb229))
        have n9_ := Aside0.mk ((by rw [hg]; exact Nat.ne_of_gt (blk_lt (bk_ BK214.out)) : gb229 ≠ gb214))
        clear BK213
        clear BK214
        clear HB
        have BK213 := n0_
        have BK214 := n1_
        have HB := n2_
        have BK229 := n3_
        have GW229 := n4_
        have GE229 := n5_
        have NB213_229 := n6_
        have NB229_213 := n7_
        have NB214_229 := n8_
        have NB229_214 := n9_
        clear n0_ n1_ n2_ n3_ n4_ n5_ n6_ n7_ n8_ n9_
        clear hb hbox hg
        refine hK.out _ _ ⟨(blk_cell BK213.out 0).trans rfl, (blk_cell BK213.out 1).trans rfl, (blk_cell BK214.out 0).trans rfl, (blk_cell BK214.out 1).trans rfl, (blk_cell BK214.out 2).trans rfl, (blk_cell BK214.out 3).trans rfl⟩ (fun hHeld => ?_)
        clear hK K
        refine norm_ (a' := ?_) ?_ ?_
        rotate_left
        · show Act.put _ (some 6) _ = _
          simp only [Act.put, sA, sB, sC, i64_w, i32_w]
          rfl
        refine one_ (i := 1) (N := some 23) #[true, true, true, false, false, false, false, false, true, false, false] rfl rfl (one_of HT_.out (by kernel_rfl)) (by decide) (fun K hK => ?_)
        refine goes_ Try.func17 (by kernel_rfl) rfl #[.agg #[.int .i64 a0_0, .slice A0_1 l0_1.length c0_1]] (by rfl) rfl rfl (by (try simp only [List.map_toArray, List.map_cons, List.map_nil]); first | done | rfl | (simp only [List.length_drop, List.length_take]; rfl)) ?_
        with_reducible refine (laws_toPuzzle.calls k a0_0 _ _ l0_1 t216 t217 _ ?side1 ?side2 A10.out).mono ?_
        (case side1 => repeat (first | exact (Kd.C_below HR0_1.out HB.out) | (with_reducible refine Kd.C_alloc ?_ _) | (with_reducible refine Kd.C_drewN ?_ _) | (with_reducible refine Kd.C_drew ?_)))
        (case side2 => exact HC0_1.out)
        rintro e w24 ⟨v218, rfl, ho0, hb⟩
        refine ⟨_, rfl, ?_⟩
        have n0_ := Aside0.mk (Kd.R_lower ho0 (below_size (hbg_)))
        have n1_ := bb_ BK213 hb
        have n2_ := bb_ BK214 hb
        have n3_ := bb_ BK229 hb
        have n4_ := Aside0.mk (below_step (hbg_) hb)
        clear BK213
        clear BK214
        clear BK229
        clear HB
        have HO219 := n0_
        have BK213 := n1_
        have BK214 := n2_
        have BK229 := n3_
        have HB := n4_
        clear n0_ n1_ n2_ n3_ n4_
        (try clear hb)
        (try clear hb2)
        (try clear hk)
        (try clear hi)
        (try clear ho0)
        refine hK.out _ _ ⟨(blk_cell BK213.out 0).trans rfl, (blk_cell BK213.out 1).trans rfl, (blk_cell BK214.out 0).trans rfl, (blk_cell BK214.out 1).trans rfl, (blk_cell BK214.out 2).trans rfl, (blk_cell BK214.out 3).trans rfl⟩ (fun hHeld => ?_)
        clear hK K
        refine norm_ (a' := ?_) ?_ ?_
        rotate_left
        · show Act.put _ (some 23) _ = _
          simp only [Act.put, sA, sB, sC, i64_w, i32_w]
          rfl
        refine one_ (i := 3) (N := some 25) #[true, true, true, true, false, false, false, false, true, false, false] rfl rfl (one_of HT_.out (by kernel_rfl)) (by decide) (fun K hK => ?_)
        refine goes_ Try.func21 (by kernel_rfl) rfl #[.agg #[.int .i64 a1_0, .int .i64 a1_1, .int .i64 a1_2, .int .i64 a1_3]] (by rfl) rfl rfl (by (try simp only [List.map_toArray, List.map_cons, List.map_nil]); first | done | rfl | (simp only [List.length_drop, List.length_take]; rfl)) ?_
        with_reducible refine (laws_toClue.calls a1_0 a1_1 a1_2 a1_3 t220 t221 t222 t223 _ A11.out).mono ?_
        rintro e w25 ⟨rfl, hb⟩
        refine ⟨_, rfl, ?_⟩
        have n0_ := Aside0.mk (Kd.R_below (rk_ HO219.out) hb)
        have n1_ := bb_ BK213 hb
        have n2_ := bb_ BK214 hb
        have n3_ := bb_ BK229 hb
        have n4_ := Aside0.mk (below_step (hbg_) hb)
        clear HO219
        clear BK213
        clear BK214
        clear BK229
        clear HB
        have HO219 := n0_
        have BK213 := n1_
        have BK214 := n2_
        have BK229 := n3_
        have HB := n4_
        clear n0_ n1_ n2_ n3_ n4_
        (try clear hb)
        (try clear hb2)
        (try clear hk)
        (try clear hi)
        obtain ⟨Ao26, co26, eo26⟩ := Kd.R_slice HO219.out
        (first | subst eo26 | (injection eo26 with f1_ f2_ f3_; have f4_ := f1_.symm; have f5_ := f3_.symm; clear f1_ f2_ f3_; subst f4_; subst f5_))
        refine hK.out _ _ ⟨(blk_cell BK213.out 0).trans rfl, (blk_cell BK213.out 1).trans rfl, (blk_cell BK214.out 0).trans rfl, (blk_cell BK214.out 1).trans rfl, (blk_cell BK214.out 2).trans rfl, (blk_cell BK214.out 3).trans rfl⟩ (fun hHeld => ?_)
        clear hK K
        refine norm_ (a' := ?_) ?_ ?_
        rotate_left
        · show Act.put _ (some 25) _ = _
          simp only [Act.put, sA, sB, sC, i64_w, i32_w]
          rfl
        refine one_ (i := 4) (N := some 26) #[true, true, true, true, true, false, false, false, true, false, false] rfl rfl (one_of HT_.out (by kernel_rfl)) (by decide) (fun K hK => ?_)
        refine goes_ Try.func24 (by kernel_rfl) rfl #[.agg #[.int .i64 t216, .slice Ao26 t217.length co26], .agg #[.int .i64 t220, .int .i64 t221, .int .i64 t222, .int .i64 t223]] (by rfl) rfl rfl (by (try simp only [List.map_toArray, List.map_cons, List.map_nil]); first | done | rfl | (simp only [List.length_drop, List.length_take]; rfl)) ?_
        with_reducible refine (spec_AddClue.calls k t216 _ _ t217 t220 t221 t222 t223 t224 t225 t228 _ ?side1 ?side2 A12.out).mono ?_
        (case side1 => repeat (first | exact (Kd.R_reads' HO219.out).2.2 | (with_reducible refine Kd.C_alloc ?_ _) | (with_reducible refine Kd.C_drewN ?_ _) | (with_reducible refine Kd.C_drew ?_)))
        (case side2 => exact (Kd.R_reads' HO219.out).2.1)
        rintro e w27 ⟨v226, rfl, ho0, hb⟩
        refine ⟨_, rfl, ?_⟩
        have n0_ := Aside0.mk (Kd.R_elder' (rk_ HO219.out) (Kd.R_base ho0) hb)
        have n1_ := Aside0.mk (Kd.R_lower (Kd.R_new' ho0 (Kd.R_lt (rk_ HO219.out))) (below_size (hbg_)))
        have n2_ := bb_ BK213 hb
        have n3_ := bb_ BK214 hb
        have n4_ := bb_ BK229 hb
        have n5_ := Aside0.mk (below_step (hbg_) hb)
        clear HO219
        clear BK213
        clear BK214
        clear BK229
        clear HB
        have HO219 := n0_
        have HO227 := n1_
        have BK213 := n2_
        have BK214 := n3_
        have BK229 := n4_
        have HB := n5_
        clear n0_ n1_ n2_ n3_ n4_ n5_
        (try clear hb)
        (try clear hb2)
        (try clear hk)
        (try clear hi)
        (try clear ho0)
        refine hK.out _ _ ⟨(blk_cell BK213.out 0).trans rfl, (blk_cell BK213.out 1).trans rfl, (blk_cell BK214.out 0).trans rfl, (blk_cell BK214.out 1).trans rfl, (blk_cell BK214.out 2).trans rfl, (blk_cell BK214.out 3).trans rfl⟩ (fun hHeld => ?_)
        clear hK K
        refine norm_ (a' := ?_) ?_ ?_
        rotate_left
        · show Act.put _ (some 26) _ = _
          simp only [Act.put, sA, sB, sC, i64_w, i32_w]
          rfl
        refine pure_ (i := 5) (N := some 21) (v := ?_) (a' := ?_) #[true, true, true, true, true, true, false, false, true, false, false] rfl rfl (any_of HT_.out (by kernel_rfl)) (fun _ _ _ h => h) (Or.inl ⟨by rfl, ?_⟩) ?_ ?_
        rotate_left
        · intro w'
          go_simp
          with_reducible rfl
        rotate_left
        · simp only [Act.put, sA, sB, sC, i64_w, i32_w]
          rfl
        refine pure_ (i := 6) (N := some 27) (v := ?_) (a' := ?_) #[true, true, true, true, true, true, true, false, true, false, false] rfl rfl (any_of HT_.out (by kernel_rfl)) (fun _ _ _ h => h) (Or.inl ⟨by rfl, ?_⟩) ?_ ?_
        rotate_left
        · intro w'
          go_simp
          with_reducible rfl
        rotate_left
        · simp only [Act.put, sA, sB, sC, i64_w, i32_w]
          rfl
        refine pure_ (i := 7) (N := some 28) (v := ?_) (a' := ?_) #[true, true, true, true, true, true, true, true, true, false, false] rfl rfl (any_of HT_.out (by kernel_rfl)) (fun _ _ _ h => h) (Or.inl ⟨by rfl, ?_⟩) ?_ ?_
        rotate_left
        · intro w'
          go_simp
          with_reducible rfl
        rotate_left
        · simp only [Act.put, sA, sB, sC, i64_w, i32_w]
          rfl
        exact norm_ (by simp only [putAll, Act.put, List.setIfInBounds_toArray, List.set_cons_zero, List.set_cons_succ]) (hCont (.slice Ao26 t217.length co26, v226, gb229) _ ⟨hHeld, (by (with_reducible repeat (first | apply Kd.R_alloc | apply Kd.R_drewN | apply Kd.R_drew)); exact Kd.R_mono HO219.out (fun _ hk => hk.2)), (by (with_reducible repeat (first | apply Kd.R_alloc | apply Kd.R_drewN | apply Kd.R_drew)); exact Kd.R_mono HO227.out (fun _ hk => hk.2)), (bk_ BK213.out), (bk_ BK214.out), (bk_ BK229.out), GW229.out, GE229.out, NB213_229.out, NB229_213.out, NB214_229.out, NB229_214.out, (hbg_)⟩)
    rintro ⟨v218, v226, gb229⟩ w28 ⟨hS_, h0_, h1_, h2_, h3_, h4_, h5_, h6_, h7_, h8_, h9_, h10_, h11_⟩
    have n0_ : Aside0 (Kd.R k39 39 w28 w.heap.size (fun k_ => some k_ ≠ (v226 : Value).ownBlock) v218 t217) := ⟨h0_⟩
    have n1_ : Aside0 (Kd.R k39 39 w28 w.heap.size (fun k_ => some k_ ≠ (v218 : Value).ownBlock) v226 t225) := ⟨h1_⟩
    have n2_ : Aside0 (w28.heap[gb213]? = some (.cells #[.int .i64 a0_0, .slice A0_1 l0_1.length c0_1] 24 (0, 0))) := ⟨h2_⟩
    have n3_ : Aside0 (w28.heap[gb214]? = some (.cells #[.int .i64 a1_0, .int .i64 a1_1, .int .i64 a1_2, .int .i64 a1_3] 34 (0, 0))) := ⟨h3_⟩
    have n4_ : Aside0 (w28.heap[gb229]? = some (.cells #[.int .i64 0, .slice none 0 0] 29 (0, 0))) := ⟨h4_⟩
    have n5_ : Aside0 (w.heap.size ≤ gb229) := ⟨h5_⟩
    have n6_ : Aside0 (w.heap.size ≤ gb229) := ⟨h6_⟩
    have n7_ : Aside0 (gb213 ≠ gb229) := ⟨h7_⟩
    have n8_ : Aside0 (gb229 ≠ gb213) := ⟨h8_⟩
    have n9_ : Aside0 (gb214 ≠ gb229) := ⟨h9_⟩
    have n10_ : Aside0 (gb229 ≠ gb214) := ⟨h10_⟩
    have n11_ : Aside0 (Below w.heap.size w w28) := ⟨h11_⟩
    clear BK213
    clear BK214
    clear HB
    clear h0_ h1_ h2_ h3_ h4_ h5_ h6_ h7_ h8_ h9_ h10_ h11_
    have HO219 := n0_
    have HO227 := n1_
    have BK213 := n2_
    have BK214 := n3_
    have BK229 := n4_
    have GW229 := n5_
    have GE229 := n6_
    have NB213_229 := n7_
    have NB229_213 := n8_
    have NB214_229 := n9_
    have NB229_214 := n10_
    have HB := n11_
    clear n0_ n1_ n2_ n3_ n4_ n5_ n6_ n7_ n8_ n9_ n10_ n11_
    have hHeld : w28.cell? ⟨gb213, 0, none⟩ = some (.int .i64 a0_0) ∧ w28.cell? ⟨gb213, 1, none⟩ = some (.slice A0_1 l0_1.length c0_1) ∧ w28.cell? ⟨gb214, 0, none⟩ = some (.int .i64 a1_0) ∧ w28.cell? ⟨gb214, 1, none⟩ = some (.int .i64 a1_1) ∧ w28.cell? ⟨gb214, 2, none⟩ = some (.int .i64 a1_2) ∧ w28.cell? ⟨gb214, 3, none⟩ = some (.int .i64 a1_3) := hS_
    obtain ⟨Ao30, co30, eo30⟩ := Kd.R_slice HO227.out
    (first | subst eo30 | (injection eo30 with f1_ f2_ f3_; have f4_ := f1_.symm; have f5_ := f3_.symm; clear f1_ f2_ f3_; subst f4_; subst f5_))
    refine norm_ (a' := ?_) ?_ ?_
    rotate_left
    · simp only [putAll, Act.put, List.setIfInBounds_toArray, List.set_cons_zero, List.set_cons_succ]
      rfl
    refine one_ (i := 9) (N := none) #[true, true, true, true, true, true, true, true, true, true, false] rfl rfl (one_of HT_.out (by kernel_rfl)) (by decide) (fun K hK => ?_)
    have hs29 : w28.cell? ⟨gb229, 0, none⟩ = some (.int .i64 0) := (blk_cell BK229.out 0).trans rfl
    have hfs29 := blk_frozen BK229.out 0
    have hns29_0 := NB213_229.out
    have hns29_1 := NB214_229.out
    have hms29_0 := NB229_213.out
    have hms29_1 := NB229_214.out
    have hs31 : w28.cell? ⟨gb229, 1, none⟩ = some (.slice none 0 0) := (blk_cell BK229.out 1).trans rfl
    have hfs31 := blk_frozen BK229.out 1
    have hns31_0 := NB213_229.out
    have hns31_1 := NB214_229.out
    have hms31_0 := NB229_213.out
    have hms31_1 := NB229_214.out
    refine skip_ (w1 := ?_) (by rfl) rfl ?_ ?_
    rotate_left
    · go_simp
      rfl
    refine hK.out _ _ ⟨((cell_far (p := ⟨gb229, _, none⟩) NB213_229.out _).trans (((cell_far (p := ⟨gb229, _, none⟩) NB213_229.out _).trans (hHeld.1)))), ((cell_far (p := ⟨gb229, _, none⟩) NB213_229.out _).trans (((cell_far (p := ⟨gb229, _, none⟩) NB213_229.out _).trans (hHeld.2.1)))), ((cell_far (p := ⟨gb229, _, none⟩) NB214_229.out _).trans (((cell_far (p := ⟨gb229, _, none⟩) NB214_229.out _).trans (hHeld.2.2.1)))), ((cell_far (p := ⟨gb229, _, none⟩) NB214_229.out _).trans (((cell_far (p := ⟨gb229, _, none⟩) NB214_229.out _).trans (hHeld.2.2.2.1)))), ((cell_far (p := ⟨gb229, _, none⟩) NB214_229.out _).trans (((cell_far (p := ⟨gb229, _, none⟩) NB214_229.out _).trans (hHeld.2.2.2.2.1)))), ((cell_far (p := ⟨gb229, _, none⟩) NB214_229.out _).trans (((cell_far (p := ⟨gb229, _, none⟩) NB214_229.out _).trans (hHeld.2.2.2.2.2))))⟩ (fun hHeld => ?_)
    clear hK K
    refine pure_ (i := 10) (N := some 7) (v := ?_) (a' := ?_) #[true, true, true, true, true, true, true, true, true, true, true] rfl rfl (any_of HT_.out (by kernel_rfl)) (fun _ _ _ h => h) (Or.inl ⟨by rfl, ?_⟩) ?_ ?_
    rotate_left
    · intro w'
      go_simp
      with_reducible rfl
    rotate_left
    · simp only [Act.put, sA, sB, sC, i64_w, i32_w]
      rfl
    refine done_ (done_of HT_.out (by kernel_rfl)) ?_
    have hnb32 := NB213_229.out
    have hnc32 := NB229_213.out
    have hcz33_0 : w28.cell? ⟨gb213, 0, none⟩ = some (.int .i64 a0_0) := (blk_cell BK213.out 0).trans rfl
    have hcz33_1 : w28.cell? ⟨gb213, 1, none⟩ = some (.slice A0_1 l0_1.length c0_1) := (blk_cell BK213.out 1).trans rfl
    have hfz33_0 := blk_frozen BK213.out 0
    have hfz33_1 := blk_frozen BK213.out 1
    try go_wp2_with (first | ((with_reducible refine gate_callee (f := 17) rfl ?_); refine goesL_ (some 30) rfl rfl Try.func17 (by kernel_rfl) rfl #[.agg #[.int .i64 a0_0, .slice A0_1 l0_1.length c0_1]] rfl (by (try simp only [List.map_toArray, List.map_cons, List.map_nil]); first | done | rfl | (simp only [List.length_drop, List.length_take]; rfl)) ?_; (with_reducible refine (laws_toPuzzle.calls k a0_0 _ _ l0_1 t230 t231 _ ?side1 ?side2 A13.out).mono ?_); (case side1 => exact Kd.C_below HR0_1.out (hbg_)); (case side2 => exact HC0_1.out); rintro e w34 ⟨v232, rfl, ho0, hb⟩; refine ⟨_, rfl, ?_⟩; have n0_ := Aside0.mk (Kd.R_elder' (by (with_reducible repeat (first | apply Kd.R_alloc | apply Kd.R_drewN | apply Kd.R_drew)); exact (Kd.R_mono (Kd.R_far (p := ⟨gb229, 1, none⟩) (Kd.R_far (p := ⟨gb229, 0, none⟩) (Kd.R_types HO219.out BK229.out (by decide)) (fun _ hk => hk.2) (.int .i64 t224)) (fun _ hk => hk.2) (.slice Ao30 t225.length co30)) (fun _ h_ => h_.1))) (Kd.R_base ho0) hb); have n1_ := Aside0.mk (Kd.R_elder' (by (with_reducible repeat (first | apply Kd.R_alloc | apply Kd.R_drewN | apply Kd.R_drew)); exact (Kd.R_mono (Kd.R_far (p := ⟨gb229, 1, none⟩) (Kd.R_far (p := ⟨gb229, 0, none⟩) (Kd.R_types HO227.out BK229.out (by decide)) (fun _ hk => hk.2) (.int .i64 t224)) (fun _ hk => hk.2) (.slice Ao30 t225.length co30)) (fun _ h_ => h_.1))) (Kd.R_base ho0) hb); have n2_ := Aside0.mk (Kd.R_lower (Kd.R_new' (Kd.R_new' ho0 (Kd.R_lt (by (with_reducible repeat (first | apply Kd.R_alloc | apply Kd.R_drewN | apply Kd.R_drew)); exact (Kd.R_mono (Kd.R_far (p := ⟨gb229, 1, none⟩) (Kd.R_far (p := ⟨gb229, 0, none⟩) (Kd.R_types HO219.out BK229.out (by decide)) (fun _ hk => hk.2) (.int .i64 t224)) (fun _ hk => hk.2) (.slice Ao30 t225.length co30)) (fun _ h_ => h_.1))))) (Kd.R_lt (by (with_reducible repeat (first | apply Kd.R_alloc | apply Kd.R_drewN | apply Kd.R_drew)); exact (Kd.R_mono (Kd.R_far (p := ⟨gb229, 1, none⟩) (Kd.R_far (p := ⟨gb229, 0, none⟩) (Kd.R_types HO227.out BK229.out (by decide)) (fun _ hk => hk.2) (.int .i64 t224)) (fun _ hk => hk.2) (.slice Ao30 t225.length co30)) (fun _ h_ => h_.1))))) (below_size (hbg_))); have n3_ := Aside0.mk (blk_below (g := gb213) (o := .cells #[.int .i64 a0_0, .slice A0_1 l0_1.length c0_1] 24 (0, 0)) (bf2_ BK213 NB213_229) hb); have n4_ := Aside0.mk (blk_below (g := gb214) (o := .cells #[.int .i64 a1_0, .int .i64 a1_1, .int .i64 a1_2, .int .i64 a1_3] 34 (0, 0)) (bf2_ BK214 NB214_229) hb); have n5_ := Aside0.mk (blk_below (g := gb229) (o := .cells #[.int .i64 t224, .slice Ao30 t225.length co30] 29 (0, 0)) (by (with_reducible repeat (first | refine blk_drewN ?_ _ | refine blk_drew ?_ | refine blk_alloc ?_ _)); refine blk_put (cs := #[.int .i64 t224, .slice none 0 0]) ?_ 1 _ rfl; (with_reducible repeat (first | refine blk_drewN ?_ _ | refine blk_drew ?_ | refine blk_alloc ?_ _)); refine blk_put (cs := #[.int .i64 0, .slice none 0 0]) ?_ 0 _ rfl; (with_reducible repeat (first | refine blk_drewN ?_ _ | refine blk_drew ?_ | refine blk_alloc ?_ _)); exact BK229.out) hb); have n6_ := Aside0.mk (below_step (hbg_) hb); clear HO219; clear HO227; clear BK213; clear BK214; clear BK229; clear HB; have HO219 := n0_; have HO227 := n1_; have HO233 := n2_; have BK213 := n3_; have BK214 := n4_; have BK229 := n5_; have HB := n6_; clear n0_ n1_ n2_ n3_ n4_ n5_ n6_; (try clear hb); (try clear hb2); (try clear hk); (try clear hi); (try clear ho0)) | ((with_reducible refine gate_dst (N := 8) rfl ?_); refine box_event ?hg (N := 8) ?hd (cs := #[.int .i64 0, .slice none 0 0]) (t := 29) ?hr ?_; (case hd => rfl); (case hg => rfl); (case hr => first | (go_simp; done) | (go_simp; rfl)); intro gb234 hg w35 hbox hb; have n0_ := Aside0.mk (Kd.R_below (rk_ HO219.out) hb); have n1_ := Aside0.mk (Kd.R_below (rk_ HO227.out) hb); have n2_ := Aside0.mk (Kd.R_below (rk_ HO233.out) hb); have n3_ := bb_ BK213 hb; have n4_ := bb_ BK214 hb; have n5_ := bb_ BK229 hb; have n6_ := Aside0.mk (below_step (hbg_) hb); have n7_ := Aside0.mk (hbox); have n8_ := Aside0.mk ((by rw [hg]; exact (below_size (hbg_)) : w.heap.size ≤ gb234)); have n9_ := Aside0.mk ((by rw [hg]; exact (below_size (hbg_)) : w.heap.size ≤ gb234)); have n10_ := Aside0.mk ((by rw [hg]; exact Nat.ne_of_lt (blk_lt (bk_ BK213.out)) : gb213 ≠ gb234)); have n11_ := Aside0.mk ((by rw [hg]; exact Nat.ne_of_gt (blk_lt (bk_ BK213.out)) : gb234 ≠ gb213)); have n12_ := Aside0.mk ((by rw [hg]; exact Nat.ne_of_lt (blk_lt (bk_ BK214.out)) : gb214 ≠ gb234)); have n13_ := Aside0.mk ((by rw [hg]; exact Nat.ne_of_gt (blk_lt (bk_ BK214.out)) : gb234 ≠ gb214)); have n14_ := Aside0.mk ((by rw [hg]; exact Nat.ne_of_lt (blk_lt (bk_ BK229.out)) : gb229 ≠ gb234)); have n15_ := Aside0.mk ((by rw [hg]; exact Nat.ne_of_gt (blk_lt (bk_ BK229.out)) : gb234 ≠ gb229)); clear HO219; clear HO227; clear HO233; clear BK213; clear BK214; clear BK229; clear HB; have HO219 := n0_; have HO227 := n1_; have HO233 := n2_; have BK213 := n3_; have BK214 := n4_; have BK229 := n5_; have HB := n6_; have BK234 := n7_; have GW234 := n8_; have GE234 := n9_; have NB213_234 := n10_; have NB234_213 := n11_; have NB214_234 := n12_; have NB234_214 := n13_; have NB229_234 := n14_; have NB234_229 := n15_; clear n0_ n1_ n2_ n3_ n4_ n5_ n6_ n7_ n8_ n9_ n10_ n11_ n12_ n13_ n14_ n15_; clear hb hbox hg; have hnb36 := NB234_213.out; have hnc36 := NB213_234.out; have hnb37 := NB234_214.out; have hnc37 := NB214_234.out; have hnb38 := NB234_229.out; have hnc38 := NB229_234.out; have hcz39_0 : w35.cell? ⟨gb234, 0, none⟩ = some (.int .i64 0) := (blk_cell BK234.out 0).trans rfl; have hcz39_1 : w35.cell? ⟨gb234, 1, none⟩ = some (.slice none 0 0) := (blk_cell BK234.out 1).trans rfl; have hfz39_0 := blk_frozen BK234.out 0; have hfz39_1 := blk_frozen BK234.out 1; obtain ⟨Ao40, co40, eo40⟩ := Kd.R_slice HO233.out; subst eo40) | ((with_reducible refine gate_store (t := 29) (p := 8) rfl ?_); refine store_event (t := 29) (p := 8) (v := ?vo_w41) (w1 := ((w35.setCell ⟨gb234, 0, none⟩ (.int .i64 t230)).setCell ⟨gb234, 1, none⟩ (.slice Ao40 t231.length co40))) ?hg ?ho ?hn ?hr ?_; (case ho => rfl); (case hg => rfl); (case hn => rfl); (case hr => first | (go_simp; done) | (go_simp; rfl)); intro w41 hw; have n0_ : Aside0 (Kd.R k39 39 w41 w.heap.size (fun k_ => some k_ ≠ (.slice Ao30 t225.length co30 : Value).ownBlock ∧ some k_ ≠ (.slice Ao40 t231.length co40 : Value).ownBlock) v218 t217) := ⟨(by rw [hw]; exact (by (with_reducible repeat (first | apply Kd.R_alloc | apply Kd.R_drewN | apply Kd.R_drew)); exact Kd.R_mono (Kd.R_far (p := ⟨gb234, 1, none⟩) (Kd.R_far (p := ⟨gb234, 0, none⟩) (Kd.R_types HO219.out BK234.out (by decide)) (fun _ hk => hk.2) (.int .i64 t230)) (fun _ hk => hk.2) (.slice Ao40 t231.length co40)) (fun _ hk => ⟨hk.1.1, hk.1.2⟩)))⟩; have n1_ : Aside0 (Kd.R k39 39 w41 w.heap.size (fun k_ => some k_ ≠ (v218 : Value).ownBlock ∧ some k_ ≠ (.slice Ao40 t231.length co40 : Value).ownBlock) (.slice Ao30 t225.length co30) t225) := ⟨(by rw [hw]; exact (by (with_reducible repeat (first | apply Kd.R_alloc | apply Kd.R_drewN | apply Kd.R_drew)); exact Kd.R_mono (Kd.R_far (p := ⟨gb234, 1, none⟩) (Kd.R_far (p := ⟨gb234, 0, none⟩) (Kd.R_types HO227.out BK234.out (by decide)) (fun _ hk => hk.2) (.int .i64 t230)) (fun _ hk => hk.2) (.slice Ao40 t231.length co40)) (fun _ hk => ⟨hk.1.1, hk.1.2⟩)))⟩; have n2_ : Aside0 (Kd.R k39 39 w41 w.heap.size (fun k_ => some k_ ≠ (v218 : Value).ownBlock ∧ some k_ ≠ (.slice Ao30 t225.length co30 : Value).ownBlock) (.slice Ao40 t231.length co40) t231) := ⟨(by rw [hw]; exact (by (with_reducible repeat (first | apply Kd.R_alloc | apply Kd.R_drewN | apply Kd.R_drew)); exact Kd.R_mono (Kd.R_far (p := ⟨gb234, 1, none⟩) (Kd.R_far (p := ⟨gb234, 0, none⟩) (Kd.R_types HO233.out BK234.out (by decide)) (fun _ hk => hk.2) (.int .i64 t230)) (fun _ hk => hk.2) (.slice Ao40 t231.length co40)) (fun _ hk => ⟨hk.1.1.2, hk.1.2⟩)))⟩; have n3_ : Aside0 (w41.heap[gb213]? = some (.cells #[.int .i64 a0_0, .slice A0_1 l0_1.length c0_1] 24 (0, 0))) := ⟨(by rw [hw]; exact (bf2_ BK213 NB213_234))⟩; have n4_ : Aside0 (w41.heap[gb214]? = some (.cells #[.int .i64 a1_0, .int .i64 a1_1, .int .i64 a1_2, .int .i64 a1_3] 34 (0, 0))) := ⟨(by rw [hw]; exact (bf2_ BK214 NB214_234))⟩; have n5_ : Aside0 (w41.heap[gb229]? = some (.cells #[.int .i64 t224, .slice Ao30 t225.length co30] 29 (0, 0))) := ⟨(by rw [hw]; exact (bf2_ BK229 NB229_234))⟩; have n6_ : Aside0 (w41.heap[gb234]? = some (.cells #[.int .i64 t230, .slice Ao40 t231.length co40] 29 (0, 0))) := ⟨(by rw [hw]; exact (by (with_reducible repeat (first | refine blk_drewN ?_ _ | refine blk_drew ?_ | refine blk_alloc ?_ _)); refine blk_put (cs := #[.int .i64 t230, .slice none 0 0]) ?_ 1 _ rfl; (with_reducible repeat (first | refine blk_drewN ?_ _ | refine blk_drew ?_ | refine blk_alloc ?_ _)); refine blk_put (cs := #[.int .i64 0, .slice none 0 0]) ?_ 0 _ rfl; (with_reducible repeat (first | refine blk_drewN ?_ _ | refine blk_drew ?_ | refine blk_alloc ?_ _)); exact BK234.out))⟩; have n7_ : Aside0 (Below w.heap.size w w41) := ⟨(by rw [hw]; exact (hbg_))⟩; clear hw; clear HO219; clear HO227; clear HO233; clear BK213; clear BK214; clear BK229; clear BK234; clear HB; have HO219 := n0_; have HO227 := n1_; have HO233 := n2_; have BK213 := n3_; have BK214 := n4_; have BK229 := n5_; have BK234 := n6_; have HB := n7_; clear n0_ n1_ n2_ n3_ n4_ n5_ n6_ n7_))
    have n0_ := Aside0.mk (Kd.R_drew HO219.out)
    have n1_ := Aside0.mk (Kd.R_drew HO227.out)
    have n2_ := Aside0.mk (Kd.R_drew HO233.out)
    have n3_ := Aside0.mk (blk_drew BK213.out)
    have n4_ := Aside0.mk (blk_drew BK214.out)
    have n5_ := Aside0.mk (blk_drew BK229.out)
    have n6_ := Aside0.mk (blk_drew BK234.out)
    have n7_ := Aside0.mk (below_drew1 HB.out)
    clear HO219
    clear HO227
    clear HO233
    clear BK213
    clear BK214
    clear BK229
    clear BK234
    clear HB
    have HO219 := n0_
    have HO227 := n1_
    have HO233 := n2_
    have BK213 := n3_
    have BK214 := n4_
    have BK229 := n5_
    have BK234 := n6_
    have HB := n7_
    clear n0_ n1_ n2_ n3_ n4_ n5_ n6_ n7_
    refine start_ (n := 10) (S := fun w' => w'.cell? ⟨gb234, 0, none⟩ = some (.int .i64 t230) ∧ w'.cell? ⟨gb234, 1, none⟩ = some (.slice Ao40 t231.length co40) ∧ w'.cell? ⟨gb214, 0, none⟩ = some (.int .i64 a1_0) ∧ w'.cell? ⟨gb214, 1, none⟩ = some (.int .i64 a1_1) ∧ w'.cell? ⟨gb214, 2, none⟩ = some (.int .i64 a1_2) ∧ w'.cell? ⟨gb214, 3, none⟩ = some (.int .i64 a1_3)) (ds := []) #[false, false, false, false, false, false, false, false, false, false] (by kernel_rfl) rfl rfl ⟨(blk_cell BK234.out 0).trans rfl, (blk_cell BK234.out 1).trans rfl, (blk_cell BK214.out 0).trans rfl, (blk_cell BK214.out 1).trans rfl, (blk_cell BK214.out 2).trans rfl, (blk_cell BK214.out 3).trans rfl⟩ (fun hHeld => ?_); refine with_tabW laws_FnExactAddClue.tab7 laws_FnExactAddClue.bits7 (fun HT_ HW_ => ?_)
    generalize w41.drew = w42 at HO219 HO227 HO233 BK213 BK214 BK229 BK234 HB hHeld ⊢
    refine take_ (i := 0) (N := some 32) (v := ?_) (a' := ?_) #[true, false, false, false, false, false, false, false, false, false] rfl rfl (take_ofW HT_.out HW_.out (by kernel_rfl)) (fun _ _ _ h => h) (Or.inl ⟨by rfl, ?_⟩) hHeld ?_ ?_
    rotate_left
    · rintro w' ⟨s0, s1, s2, s3, s4, s5⟩
      go_simp
      with_reducible rfl
    rotate_left
    · simp only [Act.put, sA, sB, sC, i64_w, i32_w]
      rfl
    refine take_ (i := 1) (N := some 33) (v := ?_) (a' := ?_) #[true, true, false, false, false, false, false, false, false, false] rfl rfl (take_ofW HT_.out HW_.out (by kernel_rfl)) (fun _ _ _ h => h) (Or.inl ⟨by rfl, ?_⟩) hHeld ?_ ?_
    rotate_left
    · rintro w' ⟨s0, s1, s2, s3, s4, s5⟩
      go_simp
      with_reducible rfl
    rotate_left
    · simp only [Act.put, sA, sB, sC, i64_w, i32_w]
      rfl
    refine join_ (σ := Value × Nat) 2 #[true, true, true, true, true, true, true, true, false, false] (fun s_ => [(34, .agg #[.int .i64 t235, .int .i64 t236, .int .i64 t237, .int .i64 t238]), (35, .tuple #[.agg #[.int .i64 t239, s_.1], .bool t243]), (9, .pointer (some ⟨s_.2, 0, none⟩)), (31, .tuple #[.agg #[.int .i64 t239, s_.1], .bool t243]), (36, .agg #[.int .i64 t239, s_.1]), (37, .bool t243)]) (fun s_ w' => (w'.cell? ⟨gb234, 0, none⟩ = some (.int .i64 t230) ∧ w'.cell? ⟨gb234, 1, none⟩ = some (.slice Ao40 t231.length co40) ∧ w'.cell? ⟨gb214, 0, none⟩ = some (.int .i64 a1_0) ∧ w'.cell? ⟨gb214, 1, none⟩ = some (.int .i64 a1_1) ∧ w'.cell? ⟨gb214, 2, none⟩ = some (.int .i64 a1_2) ∧ w'.cell? ⟨gb214, 3, none⟩ = some (.int .i64 a1_3)) ∧ (Kd.R k39 39 w' w.heap.size (fun k_ => some k_ ≠ (.slice Ao30 t225.length co30 : Value).ownBlock ∧ some k_ ≠ (.slice Ao40 t231.length co40 : Value).ownBlock ∧ some k_ ≠ (s_.1 : Value).ownBlock) v218 t217) ∧ (Kd.R k39 39 w' w.heap.size (fun k_ => some k_ ≠ (v218 : Value).ownBlock ∧ some k_ ≠ (.slice Ao40 t231.length co40 : Value).ownBlock ∧ some k_ ≠ (s_.1 : Value).ownBlock) (.slice Ao30 t225.length co30) t225) ∧ (Kd.R k39 39 w' w.heap.size (fun k_ => some k_ ≠ (v218 : Value).ownBlock ∧ some k_ ≠ (.slice Ao30 t225.length co30 : Value).ownBlock ∧ some k_ ≠ (s_.1 : Value).ownBlock) (.slice Ao40 t231.length co40) t231) ∧ (Kd.R k39 39 w' w.heap.size (fun k_ => some k_ ≠ (v218 : Value).ownBlock ∧ some k_ ≠ (.slice Ao30 t225.length co30 : Value).ownBlock ∧ some k_ ≠ (.slice Ao40 t231.length co40 : Value).ownBlock) s_.1 t240) ∧ (w'.heap[gb213]? = some (.cells #[.int .i64 a0_0, .slice A0_1 l0_1.length c0_1] 24 (0, 0))) ∧ (w'.heap[gb214]? = some (.cells #[.int .i64 a1_0, .int .i64 a1_1, .int .i64 a1_2, .int .i64 a1_3] 34 (0, 0))) ∧ (w'.heap[gb229]? = some (.cells #[.int .i64 t224, .slice Ao30 t225.length co30] 29 (0, 0))) ∧ (w'.heap[gb234]? = some (.cells #[.int .i64 t230, .slice Ao40 t231.length co40] 29 (0, 0))) ∧ (w'.heap[s_.2]? = some (.cells #[.int .i64 0, .slice none 0 0] 29 (0, 0))) ∧ (w.heap.size ≤ s_.2) ∧ (w.heap.size ≤ s_.2) ∧ (gb213 ≠ s_.2) ∧ (s_.2 ≠ gb213) ∧ (gb214 ≠ s_.2) ∧ (s_.2 ≠ gb214) ∧ (gb229 ≠ s_.2) ∧ (s_.2 ≠ gb229) ∧ (gb234 ≠ s_.2) ∧ (s_.2 ≠ gb234) ∧ (Below w.heap.size w w')) ?_ ?_
    rotate_left
    · intro hCont
      refine two_ (i := 2) (j := 7) (Ni := some 34) (Nj := some 9) #[true, true, true, false, false, false, false, false, false, false] #[true, true, false, false, false, false, false, true, false, false] rfl rfl rfl rfl (two_of HT_.out (by kernel_rfl)) (by decide) (by decide) (fun K hK => ?_) (fun K hK => ?_)
      · skip
        refine goes_ Try.func21 (by kernel_rfl) rfl #[.agg #[.int .i64 a1_0, .int .i64 a1_1, .int .i64 a1_2, .int .i64 a1_3]] (by rfl) rfl rfl (by (try simp only [List.map_toArray, List.map_cons, List.map_nil]); first | done | rfl | (simp only [List.length_drop, List.length_take]; rfl)) ?_
        with_reducible refine (laws_toClue.calls a1_0 a1_1 a1_2 a1_3 t235 t236 t237 t238 _ A14.out).mono ?_
        rintro e w43 ⟨rfl, hb⟩
        refine ⟨_, rfl, ?_⟩
        have n0_ := Aside0.mk (Kd.R_below (rk_ HO219.out) hb)
        have n1_ := Aside0.mk (Kd.R_below (rk_ HO227.out) hb)
        have n2_ := Aside0.mk (Kd.R_below (rk_ HO233.out) hb)
        have n3_ := bb_ BK213 hb
        have n4_ := bb_ BK214 hb
        have n5_ := bb_ BK229 hb
        have n6_ := bb_ BK234 hb
        have n7_ := Aside0.mk (below_step (hbg_) hb)
        clear HO219
        clear HO227
        clear HO233
        clear BK213
        clear BK214
        clear BK229
        clear BK234
        clear HB
        have HO219 := n0_
        have HO227 := n1_
        have HO233 := n2_
        have BK213 := n3_
        have BK214 := n4_
        have BK229 := n5_
        have BK234 := n6_
        have HB := n7_
        clear n0_ n1_ n2_ n3_ n4_ n5_ n6_ n7_
        (try clear hb)
        (try clear hb2)
        (try clear hk)
        (try clear hi)
        refine hK.out _ _ ⟨(blk_cell BK234.out 0).trans rfl, (blk_cell BK234.out 1).trans rfl, (blk_cell BK214.out 0).trans rfl, (blk_cell BK214.out 1).trans rfl, (blk_cell BK214.out 2).trans rfl, (blk_cell BK214.out 3).trans rfl⟩ (fun hHeld => ?_)
        clear hK K
        refine norm_ (a' := ?_) ?_ ?_
        rotate_left
        · show Act.put _ (some 34) _ = _
          simp only [Act.put, sA, sB, sC, i64_w, i32_w]
          rfl
        refine two_ (i := 3) (j := 7) (Ni := some 35) (Nj := some 9) #[true, true, true, true, false, false, false, false, false, false] #[true, true, true, false, false, false, false, true, false, false] rfl rfl rfl rfl (two_of HT_.out (by kernel_rfl)) (by decide) (by decide) (fun K hK => ?_) (fun K hK => ?_)
        · skip
          refine goes_ Try.func25 (by kernel_rfl) rfl #[.agg #[.int .i64 t230, .slice Ao40 t231.length co40], .agg #[.int .i64 t235, .int .i64 t236, .int .i64 t237, .int .i64 t238]] (by rfl) rfl rfl (by (try simp only [List.map_toArray, List.map_cons, List.map_nil]); first | done | rfl | (simp only [List.length_drop, List.length_take]; rfl)) ?_
          with_reducible refine (impl_AddClue.calls k t230 _ _ t231 t235 t236 t237 t238 t239 t240 t243 _ ?side1 ?side2 A15.out).mono ?_
          (case side1 => repeat (first | exact (Kd.R_reads' HO233.out).2.2 | (with_reducible refine Kd.C_alloc ?_ _) | (with_reducible refine Kd.C_drewN ?_ _) | (with_reducible refine Kd.C_drew ?_)))
          (case side2 => exact (Kd.R_reads' HO233.out).2.1)
          rintro e w44 ⟨v241, rfl, ho0, hb⟩
          refine ⟨_, rfl, ?_⟩
          have n0_ := Aside0.mk (Kd.R_elder' (rk_ HO219.out) (Kd.R_base ho0) hb)
          have n1_ := Aside0.mk (Kd.R_elder' (rk_ HO227.out) (Kd.R_base ho0) hb)
          have n2_ := Aside0.mk (Kd.R_elder' (rk_ HO233.out) (Kd.R_base ho0) hb)
          have n3_ := Aside0.mk (Kd.R_lower (Kd.R_new' (Kd.R_new' (Kd.R_new' ho0 (Kd.R_lt (rk_ HO219.out))) (Kd.R_lt (rk_ HO227.out))) (Kd.R_lt (rk_ HO233.out))) (below_size (hbg_)))
          have n4_ := bb_ BK213 hb
          have n5_ := bb_ BK214 hb
          have n6_ := bb_ BK229 hb
          have n7_ := bb_ BK234 hb
          have n8_ := Aside0.mk (below_step (hbg_) hb)
          clear HO219
          clear HO227
          clear HO233
          clear BK213
          clear BK214
          clear BK229
          clear BK234
          clear HB
          have HO219 := n0_
          have HO227 := n1_
          have HO233 := n2_
          have HO242 := n3_
          have BK213 := n4_
          have BK214 := n5_
          have BK229 := n6_
          have BK234 := n7_
          have HB := n8_
          clear n0_ n1_ n2_ n3_ n4_ n5_ n6_ n7_ n8_
          (try clear hb)
          (try clear hb2)
          (try clear hk)
          (try clear hi)
          (try clear ho0)
          refine hK.out _ _ ⟨(blk_cell BK234.out 0).trans rfl, (blk_cell BK234.out 1).trans rfl, (blk_cell BK214.out 0).trans rfl, (blk_cell BK214.out 1).trans rfl, (blk_cell BK214.out 2).trans rfl, (blk_cell BK214.out 3).trans rfl⟩ (fun hHeld => ?_)
          clear hK K
          refine norm_ (a' := ?_) ?_ ?_
          rotate_left
          · show Act.put _ (some 35) _ = _
            simp only [Act.put, sA, sB, sC, i64_w, i32_w]
            rfl
          refine pure_ (i := 4) (N := some 31) (v := ?_) (a' := ?_) #[true, true, true, true, true, false, false, false, false, false] rfl rfl (any_of HT_.out (by kernel_rfl)) (fun _ _ _ h => h) (Or.inl ⟨by rfl, ?_⟩) ?_ ?_
          rotate_left
          · intro w'
            go_simp
            with_reducible rfl
          rotate_left
          · simp only [Act.put, sA, sB, sC, i64_w, i32_w]
            rfl
          refine pure_ (i := 5) (N := some 36) (v := ?_) (a' := ?_) #[true, true, true, true, true, true, false, false, false, false] rfl rfl (any_of HT_.out (by kernel_rfl)) (fun _ _ _ h => h) (Or.inl ⟨by rfl, ?_⟩) ?_ ?_
          rotate_left
          · intro w'
            go_simp
            with_reducible rfl
          rotate_left
          · simp only [Act.put, sA, sB, sC, i64_w, i32_w]
            rfl
          refine pure_ (i := 6) (N := some 37) (v := ?_) (a' := ?_) #[true, true, true, true, true, true, true, false, false, false] rfl rfl (any_of HT_.out (by kernel_rfl)) (fun _ _ _ h => h) (Or.inl ⟨by rfl, ?_⟩) ?_ ?_
          rotate_left
          · intro w'
            go_simp
            with_reducible rfl
          rotate_left
          · simp only [Act.put, sA, sB, sC, i64_w, i32_w]
            rfl
          refine one_ (i := 7) (N := some 9) #[true, true, true, true, true, true, true, true, false, false] rfl rfl (one_of HT_.out (by kernel_rfl)) (by decide) (fun K hK => ?_)
          refine box_step ?hg (N := 9) ?hd (cs := #[.int .i64 0, .slice none 0 0]) (t := 29) ?hr ?_; (case hd => rfl); (case hg => rfl); (case hr => first | (go_simp; done) | (go_simp; rfl))
          intro gb244 hg w45 hbox hb
          have n0_ := Aside0.mk (Kd.R_below (rk_ HO219.out) hb)
          have n1_ := Aside0.mk (Kd.R_below (rk_ HO227.out) hb)
          have n2_ := Aside0.mk (Kd.R_below (rk_ HO233.out) hb)
          have n3_ := Aside0.mk (Kd.R_below (rk_ HO242.out) hb)
          have n4_ := bb_ BK213 hb
          have n5_ := bb_ BK214 hb
          have n6_ := bb_ BK229 hb
          have n7_ := bb_ BK234 hb
          have n8_ := Aside0.mk (below_step (hbg_) hb)
          have n9_ := Aside0.mk (hbox)
          have n10_ := Aside0.mk ((by rw [hg]; exact (below_size (hbg_)) : w.heap.size ≤ gb244))
          have n11_ := Aside0.mk ((by rw [hg]; exact (below_size (hbg_)) : w.heap.size ≤ gb244))
          have n12_ := Aside0.mk ((by rw [hg]; exact Nat.ne_of_lt (blk_lt (bk_ BK213.out)) : gb213 ≠ gb244))
          have n13_ := Aside0.mk ((by rw [hg]; exact Nat.ne_of_gt (blk_lt (bk_ BK213.out)) : gb244 ≠ gb213))
          have n14_ := Aside0.mk ((by rw [hg]; exact Nat.ne_of_lt (blk_lt (bk_ BK214.out)) : gb214 ≠ gb244))
          have n15_ := Aside0.mk ((by rw [hg]; exact Nat.ne_of_gt (blk_lt (bk_ BK214.out)) : gb244 ≠ gb214))
          have n16_ := Aside0.mk ((by rw [hg]; exact Nat.ne_of_lt (blk_lt (bk_ BK229.out)) : gb229 ≠ gb244))
          have n17_ := Aside0.mk ((by rw [hg]; exact Nat.ne_of_gt (blk_lt (bk_ BK229.out)) : gb244 ≠ gb229))
          have n18_ := Aside0.mk ((by rw [hg]; exact Nat.ne_of_lt (blk_lt (bk_ BK234.out)) : gb234 ≠ gb244))
          have n19_ := Aside0.mk ((by rw [hg]; exact Nat.ne_of_gt (blk_lt (bk_ BK234.out)) : gb244 ≠ gb234))
          clear HO219
          clear HO227
          clear HO233
          clear HO242
          clear BK213
          clear BK214
          clear BK229
          clear BK234
          clear HB
          have HO219 := n0_
          have HO227 := n1_
          have HO233 := n2_
          have HO242 := n3_
          have BK213 := n4_
          have BK214 := n5_
          have BK229 := n6_
          have BK234 := n7_
          have HB := n8_
          have BK244 := n9_
          have GW244 := n10_
          have GE244 := n11_
          have NB213_244 := n12_
          have NB244_213 := n13_
          have NB214_244 := n14_
          have NB244_214 := n15_
          have NB229_244 := n16_
          have NB244_229 := n17_
          have NB234_244 := n18_
          have NB244_234 := n19_
          clear n0_ n1_ n2_ n3_ n4_ n5_ n6_ n7_ n8_ n9_ n10_ n11_ n12_ n13_ n14_ n15_ n16_ n17_ n18_ n19_
          clear hb hbox hg
          refine hK.out _ _ ⟨(blk_cell BK234.out 0).trans rfl, (blk_cell BK234.out 1).trans rfl, (blk_cell BK214.out 0).trans rfl, (blk_cell BK214.out 1).trans rfl, (blk_cell BK214.out 2).trans rfl, (blk_cell BK214.out 3).trans rfl⟩ (fun hHeld => ?_)
          clear hK K
          refine norm_ (a' := ?_) ?_ ?_
          rotate_left
          · show Act.put _ (some 9) _ = _
            simp only [Act.put, sA, sB, sC, i64_w, i32_w]
            rfl
          exact norm_ (by simp only [putAll, Act.put, List.setIfInBounds_toArray, List.set_cons_zero, List.set_cons_succ]) (hCont (v241, gb244) _ ⟨hHeld, (by (with_reducible repeat (first | apply Kd.R_alloc | apply Kd.R_drewN | apply Kd.R_drew)); exact Kd.R_mono HO219.out (fun _ hk => ⟨hk.1.1, ⟨hk.1.2, hk.2⟩⟩)), (by (with_reducible repeat (first | apply Kd.R_alloc | apply Kd.R_drewN | apply Kd.R_drew)); exact Kd.R_mono HO227.out (fun _ hk => ⟨hk.1.1, ⟨hk.1.2, hk.2⟩⟩)), (by (with_reducible repeat (first | apply Kd.R_alloc | apply Kd.R_drewN | apply Kd.R_drew)); exact Kd.R_mono HO233.out (fun _ hk => ⟨hk.1.1, ⟨hk.1.2, hk.2⟩⟩)), (by (with_reducible repeat (first | apply Kd.R_alloc | apply Kd.R_drewN | apply Kd.R_drew)); exact Kd.R_mono HO242.out (fun _ hk => ⟨hk.1.1.2, ⟨hk.1.2, hk.2⟩⟩)), (bk_ BK213.out), (bk_ BK214.out), (bk_ BK229.out), (bk_ BK234.out), (bk_ BK244.out), GW244.out, GE244.out, NB213_244.out, NB244_213.out, NB214_244.out, NB244_214.out, NB229_244.out, NB244_229.out, NB234_244.out, NB244_234.out, (hbg_)⟩)
        · skip
          refine box_step ?hg (N := 9) ?hd (cs := #[.int .i64 0, .slice none 0 0]) (t := 29) ?hr ?_; (case hd => rfl); (case hg => rfl); (case hr => first | (go_simp; done) | (go_simp; rfl))
          intro gb244 hg w44 hbox hb
          have n0_ := Aside0.mk (Kd.R_below (rk_ HO219.out) hb)
          have n1_ := Aside0.mk (Kd.R_below (rk_ HO227.out) hb)
          have n2_ := Aside0.mk (Kd.R_below (rk_ HO233.out) hb)
          have n3_ := bb_ BK213 hb
          have n4_ := bb_ BK214 hb
          have n5_ := bb_ BK229 hb
          have n6_ := bb_ BK234 hb
          have n7_ := Aside0.mk (below_step (hbg_) hb)
          have n8_ := Aside0.mk (hbox)
          have n9_ := Aside0.mk ((by rw [hg]; exact (below_size (hbg_)) : w.heap.size ≤ gb244))
          have n10_ := Aside0.mk ((by rw [hg]; exact (below_size (hbg_)) : w.heap.size ≤ gb244))
          have n11_ := Aside0.mk ((by rw [hg]; exact Nat.ne_of_lt (blk_lt (bk_ BK213.out)) : gb213 ≠ gb244))
          have n12_ := Aside0.mk ((by rw [hg]; exact Nat.ne_of_gt (blk_lt (bk_ BK213.out)) : gb244 ≠ gb213))
          have n13_ := Aside0.mk ((by rw [hg]; exact Nat.ne_of_lt (blk_lt (bk_ BK214.out)) : gb214 ≠ gb244))
          have n14_ := Aside0.mk ((by rw [hg]; exact Nat.ne_of_gt (blk_lt (bk_ BK214.out)) : gb244 ≠ gb214))
          have n15_ := Aside0.mk ((by rw [hg]; exact Nat.ne_of_lt (blk_lt (bk_ BK229.out)) : gb229 ≠ gb244))
          have n16_ := Aside0.mk ((by rw [hg]; exact Nat.ne_of_gt (blk_lt (bk_ BK229.out)) : gb244 ≠ gb229))
          have n17_ := Aside0.mk ((by rw [hg]; exact Nat.ne_of_lt (blk_lt (bk_ BK234.out)) : gb234 ≠ gb244))
          have n18_ := Aside0.mk ((by rw [hg]; exact Nat.ne_of_gt (blk_lt (bk_ BK234.out)) : gb244 ≠ gb234))
          clear HO219
          clear HO227
          clear HO233
          clear BK213
          clear BK214
          clear BK229
          clear BK234
          clear HB
          have HO219 := n0_
          have HO227 := n1_
          have HO233 := n2_
          have BK213 := n3_
          have BK214 := n4_
          have BK229 := n5_
          have BK234 := n6_
          have HB := n7_
          have BK244 := n8_
          have GW244 := n9_
          have GE244 := n10_
          have NB213_244 := n11_
          have NB244_213 := n12_
          have NB214_244 := n13_
          have NB244_214 := n14_
          have NB229_244 := n15_
          have NB244_229 := n16_
          have NB234_244 := n17_
          have NB244_234 := n18_
          clear n0_ n1_ n2_ n3_ n4_ n5_ n6_ n7_ n8_ n9_ n10_ n11_ n12_ n13_ n14_ n15_ n16_ n17_ n18_
          clear hb hbox hg
          refine hK.out _ _ ⟨(blk_cell BK234.out 0).trans rfl, (blk_cell BK234.out 1).trans rfl, (blk_cell BK214.out 0).trans rfl, (blk_cell BK214.out 1).trans rfl, (blk_cell BK214.out 2).trans rfl, (blk_cell BK214.out 3).trans rfl⟩ (fun hHeld => ?_)
          clear hK K
          refine norm_ (a' := ?_) ?_ ?_
          rotate_left
          · show Act.put _ (some 9) _ = _
            simp only [Act.put, sA, sB, sC, i64_w, i32_w]
            rfl
          refine one_ (i := 3) (N := some 35) #[true, true, true, true, false, false, false, true, false, false] rfl rfl (one_of HT_.out (by kernel_rfl)) (by decide) (fun K hK => ?_)
          refine goes_ Try.func25 (by kernel_rfl) rfl #[.agg #[.int .i64 t230, .slice Ao40 t231.length co40], .agg #[.int .i64 t235, .int .i64 t236, .int .i64 t237, .int .i64 t238]] (by rfl) rfl rfl (by (try simp only [List.map_toArray, List.map_cons, List.map_nil]); first | done | rfl | (simp only [List.length_drop, List.length_take]; rfl)) ?_
          with_reducible refine (impl_AddClue.calls k t230 _ _ t231 t235 t236 t237 t238 t239 t240 t243 _ ?side1 ?side2 A15.out).mono ?_
          (case side1 => repeat (first | exact (Kd.R_reads' HO233.out).2.2 | (with_reducible refine Kd.C_alloc ?_ _) | (with_reducible refine Kd.C_drewN ?_ _) | (with_reducible refine Kd.C_drew ?_)))
          (case side2 => exact (Kd.R_reads' HO233.out).2.1)
          rintro e w45 ⟨v241, rfl, ho0, hb⟩
          refine ⟨_, rfl, ?_⟩
          have n0_ := Aside0.mk (Kd.R_elder' (rk_ HO219.out) (Kd.R_base ho0) hb)
          have n1_ := Aside0.mk (Kd.R_elder' (rk_ HO227.out) (Kd.R_base ho0) hb)
          have n2_ := Aside0.mk (Kd.R_elder' (rk_ HO233.out) (Kd.R_base ho0) hb)
          have n3_ := Aside0.mk (Kd.R_lower (Kd.R_new' (Kd.R_new' (Kd.R_new' ho0 (Kd.R_lt (rk_ HO219.out))) (Kd.R_lt (rk_ HO227.out))) (Kd.R_lt (rk_ HO233.out))) (below_size (hbg_)))
          have n4_ := bb_ BK213 hb
          have n5_ := bb_ BK214 hb
          have n6_ := bb_ BK229 hb
          have n7_ := bb_ BK234 hb
          have n8_ := bb_ BK244 hb
          have n9_ := Aside0.mk (below_step (hbg_) hb)
          clear HO219
          clear HO227
          clear HO233
          clear BK213
          clear BK214
          clear BK229
          clear BK234
          clear BK244
          clear HB
          have HO219 := n0_
          have HO227 := n1_
          have HO233 := n2_
          have HO242 := n3_
          have BK213 := n4_
          have BK214 := n5_
          have BK229 := n6_
          have BK234 := n7_
          have BK244 := n8_
          have HB := n9_
          clear n0_ n1_ n2_ n3_ n4_ n5_ n6_ n7_ n8_ n9_
          (try clear hb)
          (try clear hb2)
          (try clear hk)
          (try clear hi)
          (try clear ho0)
          refine hK.out _ _ ⟨(blk_cell BK234.out 0).trans rfl, (blk_cell BK234.out 1).trans rfl, (blk_cell BK214.out 0).trans rfl, (blk_cell BK214.out 1).trans rfl, (blk_cell BK214.out 2).trans rfl, (blk_cell BK214.out 3).trans rfl⟩ (fun hHeld => ?_)
          clear hK K
          refine norm_ (a' := ?_) ?_ ?_
          rotate_left
          · show Act.put _ (some 35) _ = _
            simp only [Act.put, sA, sB, sC, i64_w, i32_w]
            rfl
          refine pure_ (i := 4) (N := some 31) (v := ?_) (a' := ?_) #[true, true, true, true, true, false, false, true, false, false] rfl rfl (any_of HT_.out (by kernel_rfl)) (fun _ _ _ h => h) (Or.inl ⟨by rfl, ?_⟩) ?_ ?_
          rotate_left
          · intro w'
            go_simp
            with_reducible rfl
          rotate_left
          · simp only [Act.put, sA, sB, sC, i64_w, i32_w]
            rfl
          refine pure_ (i := 5) (N := some 36) (v := ?_) (a' := ?_) #[true, true, true, true, true, true, false, true, false, false] rfl rfl (any_of HT_.out (by kernel_rfl)) (fun _ _ _ h => h) (Or.inl ⟨by rfl, ?_⟩) ?_ ?_
          rotate_left
          · intro w'
            go_simp
            with_reducible rfl
          rotate_left
          · simp only [Act.put, sA, sB, sC, i64_w, i32_w]
            rfl
          refine pure_ (i := 6) (N := some 37) (v := ?_) (a' := ?_) #[true, true, true, true, true, true, true, true, false, false] rfl rfl (any_of HT_.out (by kernel_rfl)) (fun _ _ _ h => h) (Or.inl ⟨by rfl, ?_⟩) ?_ ?_
          rotate_left
          · intro w'
            go_simp
            with_reducible rfl
          rotate_left
          · simp only [Act.put, sA, sB, sC, i64_w, i32_w]
            rfl
          exact norm_ (by simp only [putAll, Act.put, List.setIfInBounds_toArray, List.set_cons_zero, List.set_cons_succ]) (hCont (v241, gb244) _ ⟨hHeld, (by (with_reducible repeat (first | apply Kd.R_alloc | apply Kd.R_drewN | apply Kd.R_drew)); exact Kd.R_mono HO219.out (fun _ hk => ⟨hk.1.1, ⟨hk.1.2, hk.2⟩⟩)), (by (with_reducible repeat (first | apply Kd.R_alloc | apply Kd.R_drewN | apply Kd.R_drew)); exact Kd.R_mono HO227.out (fun _ hk => ⟨hk.1.1, ⟨hk.1.2, hk.2⟩⟩)), (by (with_reducible repeat (first | apply Kd.R_alloc | apply Kd.R_drewN | apply Kd.R_drew)); exact Kd.R_mono HO233.out (fun _ hk => ⟨hk.1.1, ⟨hk.1.2, hk.2⟩⟩)), (by (with_reducible repeat (first | apply Kd.R_alloc | apply Kd.R_drewN | apply Kd.R_drew)); exact Kd.R_mono HO242.out (fun _ hk => ⟨hk.1.1.2, ⟨hk.1.2, hk.2⟩⟩)), (bk_ BK213.out), (bk_ BK214.out), (bk_ BK229.out), (bk_ BK234.out), (bk_ BK244.out), GW244.out, GE244.out, NB213_244.out, NB244_213.out, NB214_244.out, NB244_214.out, NB229_244.out, NB244_229.out, NB234_244.out, NB244_234.out, (hbg_)⟩)
      · skip
        refine box_step ?hg (N := 9) ?hd (cs := #[.int .i64 0, .slice none 0 0]) (t := 29) ?hr ?_; (case hd => rfl); (case hg => rfl); (case hr => first | (go_simp; done) | (go_simp; rfl))
        intro gb244 hg w43 hbox hb
        have n0_ := Aside0.mk (Kd.R_below (rk_ HO219.out) hb)
        have n1_ := Aside0.mk (Kd.R_below (rk_ HO227.out) hb)
        have n2_ := Aside0.mk (Kd.R_below (rk_ HO233.out) hb)
        have n3_ := bb_ BK213 hb
        have n4_ := bb_ BK214 hb
        have n5_ := bb_ BK229 hb
        have n6_ := bb_ BK234 hb
        have n7_ := Aside0.mk (below_step (hbg_) hb)
        have n8_ := Aside0.mk (hbox)
        have n9_ := Aside0.mk ((by rw [hg]; exact (below_size (hbg_)) : w.heap.size ≤ gb244))
        have n10_ := Aside0.mk ((by rw [hg]; exact (below_size (hbg_)) : w.heap.size ≤ gb244))
        have n11_ := Aside0.mk ((by rw [hg]; exact Nat.ne_of_lt (blk_lt (bk_ BK213.out)) : gb213 ≠ gb244))
        have n12_ := Aside0.mk ((by rw [hg]; exact Nat.ne_of_gt (blk_lt (bk_ BK213.out)) : gb244 ≠ gb213))
        have n13_ := Aside0.mk ((by rw [hg]; exact Nat.ne_of_lt (blk_lt (bk_ BK214.out)) : gb214 ≠ gb244))
        have n14_ := Aside0.mk ((by rw [hg]; exact Nat.ne_of_gt (blk_lt (bk_ BK214.out)) : gb244 ≠ gb214))
        have n15_ := Aside0.mk ((by rw [hg]; exact Nat.ne_of_lt (blk_lt (bk_ BK229.out)) : gb229 ≠ gb244))
        have n16_ := Aside0.mk ((by rw [hg]; exact Nat.ne_of_gt (blk_lt (bk_ BK229.out)) : gb244 ≠ gb229))
        have n17_ := Aside0.mk ((by rw [hg]; exact Nat.ne_of_lt (blk_lt (bk_ BK234.out)) : gb234 ≠ gb244))
        have n18_ := Aside0.mk ((by rw [hg]; exact Nat.ne_of_gt (blk_lt (bk_ BK234.out)) : gb244 ≠ gb234))
        clear HO219
        clear HO227
        clear HO233
        clear BK213
        clear BK214
        clear BK229
        clear BK234
        clear HB
        have HO219 := n0_
        have HO227 := n1_
        have HO233 := n2_
        have BK213 := n3_
        have BK214 := n4_
        have BK229 := n5_
        have BK234 := n6_
        have HB := n7_
        have BK244 := n8_
        have GW244 := n9_
        have GE244 := n10_
        have NB213_244 := n11_
        have NB244_213 := n12_
        have NB214_244 := n13_
        have NB244_214 := n14_
        have NB229_244 := n15_
        have NB244_229 := n16_
        have NB234_244 := n17_
        have NB244_234 := n18_
        clear n0_ n1_ n2_ n3_ n4_ n5_ n6_ n7_ n8_ n9_ n10_ n11_ n12_ n13_ n14_ n15_ n16_ n17_ n18_
        clear hb hbox hg
        refine hK.out _ _ ⟨(blk_cell BK234.out 0).trans rfl, (blk_cell BK234.out 1).trans rfl, (blk_cell BK214.out 0).trans rfl, (blk_cell BK214.out 1).trans rfl, (blk_cell BK214.out 2).trans rfl, (blk_cell BK214.out 3).trans rfl⟩ (fun hHeld => ?_)
        clear hK K
        refine norm_ (a' := ?_) ?_ ?_
        rotate_left
        · show Act.put _ (some 9) _ = _
          simp only [Act.put, sA, sB, sC, i64_w, i32_w]
          rfl
        refine one_ (i := 2) (N := some 34) #[true, true, true, false, false, false, false, true, false, false] rfl rfl (one_of HT_.out (by kernel_rfl)) (by decide) (fun K hK => ?_)
        refine goes_ Try.func21 (by kernel_rfl) rfl #[.agg #[.int .i64 a1_0, .int .i64 a1_1, .int .i64 a1_2, .int .i64 a1_3]] (by rfl) rfl rfl (by (try simp only [List.map_toArray, List.map_cons, List.map_nil]); first | done | rfl | (simp only [List.length_drop, List.length_take]; rfl)) ?_
        with_reducible refine (laws_toClue.calls a1_0 a1_1 a1_2 a1_3 t235 t236 t237 t238 _ A14.out).mono ?_
        rintro e w44 ⟨rfl, hb⟩
        refine ⟨_, rfl, ?_⟩
        have n0_ := Aside0.mk (Kd.R_below (rk_ HO219.out) hb)
        have n1_ := Aside0.mk (Kd.R_below (rk_ HO227.out) hb)
        have n2_ := Aside0.mk (Kd.R_below (rk_ HO233.out) hb)
        have n3_ := bb_ BK213 hb
        have n4_ := bb_ BK214 hb
        have n5_ := bb_ BK229 hb
        have n6_ := bb_ BK234 hb
        have n7_ := bb_ BK244 hb
        have n8_ := Aside0.mk (below_step (hbg_) hb)
        clear HO219
        clear HO227
        clear HO233
        clear BK213
        clear BK214
        clear BK229
        clear BK234
        clear BK244
        clear HB
        have HO219 := n0_
        have HO227 := n1_
        have HO233 := n2_
        have BK213 := n3_
        have BK214 := n4_
        have BK229 := n5_
        have BK234 := n6_
        have BK244 := n7_
        have HB := n8_
        clear n0_ n1_ n2_ n3_ n4_ n5_ n6_ n7_ n8_
        (try clear hb)
        (try clear hb2)
        (try clear hk)
        (try clear hi)
        refine hK.out _ _ ⟨(blk_cell BK234.out 0).trans rfl, (blk_cell BK234.out 1).trans rfl, (blk_cell BK214.out 0).trans rfl, (blk_cell BK214.out 1).trans rfl, (blk_cell BK214.out 2).trans rfl, (blk_cell BK214.out 3).trans rfl⟩ (fun hHeld => ?_)
        clear hK K
        refine norm_ (a' := ?_) ?_ ?_
        rotate_left
        · show Act.put _ (some 34) _ = _
          simp only [Act.put, sA, sB, sC, i64_w, i32_w]
          rfl
        refine one_ (i := 3) (N := some 35) #[true, true, true, true, false, false, false, true, false, false] rfl rfl (one_of HT_.out (by kernel_rfl)) (by decide) (fun K hK => ?_)
        refine goes_ Try.func25 (by kernel_rfl) rfl #[.agg #[.int .i64 t230, .slice Ao40 t231.length co40], .agg #[.int .i64 t235, .int .i64 t236, .int .i64 t237, .int .i64 t238]] (by rfl) rfl rfl (by (try simp only [List.map_toArray, List.map_cons, List.map_nil]); first | done | rfl | (simp only [List.length_drop, List.length_take]; rfl)) ?_
        with_reducible refine (impl_AddClue.calls k t230 _ _ t231 t235 t236 t237 t238 t239 t240 t243 _ ?side1 ?side2 A15.out).mono ?_
        (case side1 => repeat (first | exact (Kd.R_reads' HO233.out).2.2 | (with_reducible refine Kd.C_alloc ?_ _) | (with_reducible refine Kd.C_drewN ?_ _) | (with_reducible refine Kd.C_drew ?_)))
        (case side2 => exact (Kd.R_reads' HO233.out).2.1)
        rintro e w45 ⟨v241, rfl, ho0, hb⟩
        refine ⟨_, rfl, ?_⟩
        have n0_ := Aside0.mk (Kd.R_elder' (rk_ HO219.out) (Kd.R_base ho0) hb)
        have n1_ := Aside0.mk (Kd.R_elder' (rk_ HO227.out) (Kd.R_base ho0) hb)
        have n2_ := Aside0.mk (Kd.R_elder' (rk_ HO233.out) (Kd.R_base ho0) hb)
        have n3_ := Aside0.mk (Kd.R_lower (Kd.R_new' (Kd.R_new' (Kd.R_new' ho0 (Kd.R_lt (rk_ HO219.out))) (Kd.R_lt (rk_ HO227.out))) (Kd.R_lt (rk_ HO233.out))) (below_size (hbg_)))
        have n4_ := bb_ BK213 hb
        have n5_ := bb_ BK214 hb
        have n6_ := bb_ BK229 hb
        have n7_ := bb_ BK234 hb
        have n8_ := bb_ BK244 hb
        have n9_ := Aside0.mk (below_step (hbg_) hb)
        clear HO219
        clear HO227
        clear HO233
        clear BK213
        clear BK214
        clear BK229
        clear BK234
        clear BK244
        clear HB
        have HO219 := n0_
        have HO227 := n1_
        have HO233 := n2_
        have HO242 := n3_
        have BK213 := n4_
        have BK214 := n5_
        have BK229 := n6_
        have BK234 := n7_
        have BK244 := n8_
        have HB := n9_
        clear n0_ n1_ n2_ n3_ n4_ n5_ n6_ n7_ n8_ n9_
        (try clear hb)
        (try clear hb2)
        (try clear hk)
        (try clear hi)
        (try clear ho0)
        refine hK.out _ _ ⟨(blk_cell BK234.out 0).trans rfl, (blk_cell BK234.out 1).trans rfl, (blk_cell BK214.out 0).trans rfl, (blk_cell BK214.out 1).trans rfl, (blk_cell BK214.out 2).trans rfl, (blk_cell BK214.out 3).trans rfl⟩ (fun hHeld => ?_)
        clear hK K
        refine norm_ (a' := ?_) ?_ ?_
        rotate_left
        · show Act.put _ (some 35) _ = _
          simp only [Act.put, sA, sB, sC, i64_w, i32_w]
          rfl
        refine pure_ (i := 4) (N := some 31) (v := ?_) (a' := ?_) #[true, true, true, true, true, false, false, true, false, false] rfl rfl (any_of HT_.out (by kernel_rfl)) (fun _ _ _ h => h) (Or.inl ⟨by rfl, ?_⟩) ?_ ?_
        rotate_left
        · intro w'
          go_simp
          with_reducible rfl
        rotate_left
        · simp only [Act.put, sA, sB, sC, i64_w, i32_w]
          rfl
        refine pure_ (i := 5) (N := some 36) (v := ?_) (a' := ?_) #[true, true, true, true, true, true, false, true, false, false] rfl rfl (any_of HT_.out (by kernel_rfl)) (fun _ _ _ h => h) (Or.inl ⟨by rfl, ?_⟩) ?_ ?_
        rotate_left
        · intro w'
          go_simp
          with_reducible rfl
        rotate_left
        · simp only [Act.put, sA, sB, sC, i64_w, i32_w]
          rfl
        refine pure_ (i := 6) (N := some 37) (v := ?_) (a' := ?_) #[true, true, true, true, true, true, true, true, false, false] rfl rfl (any_of HT_.out (by kernel_rfl)) (fun _ _ _ h => h) (Or.inl ⟨by rfl, ?_⟩) ?_ ?_
        rotate_left
        · intro w'
          go_simp
          with_reducible rfl
        rotate_left
        · simp only [Act.put, sA, sB, sC, i64_w, i32_w]
          rfl
        exact norm_ (by simp only [putAll, Act.put, List.setIfInBounds_toArray, List.set_cons_zero, List.set_cons_succ]) (hCont (v241, gb244) _ ⟨hHeld, (by (with_reducible repeat (first | apply Kd.R_alloc | apply Kd.R_drewN | apply Kd.R_drew)); exact Kd.R_mono HO219.out (fun _ hk => ⟨hk.1.1, ⟨hk.1.2, hk.2⟩⟩)), (by (with_reducible repeat (first | apply Kd.R_alloc | apply Kd.R_drewN | apply Kd.R_drew)); exact Kd.R_mono HO227.out (fun _ hk => ⟨hk.1.1, ⟨hk.1.2, hk.2⟩⟩)), (by (with_reducible repeat (first | apply Kd.R_alloc | apply Kd.R_drewN | apply Kd.R_drew)); exact Kd.R_mono HO233.out (fun _ hk => ⟨hk.1.1, ⟨hk.1.2, hk.2⟩⟩)), (by (with_reducible repeat (first | apply Kd.R_alloc | apply Kd.R_drewN | apply Kd.R_drew)); exact Kd.R_mono HO242.out (fun _ hk => ⟨hk.1.1.2, ⟨hk.1.2, hk.2⟩⟩)), (bk_ BK213.out), (bk_ BK214.out), (bk_ BK229.out), (bk_ BK234.out), (bk_ BK244.out), GW244.out, GE244.out, NB213_244.out, NB244_213.out, NB214_244.out, NB244_214.out, NB229_244.out, NB244_229.out, NB234_244.out, NB244_234.out, (hbg_)⟩)
    rintro ⟨v241, gb244⟩ w46 ⟨hS_, h0_, h1_, h2_, h3_, h4_, h5_, h6_, h7_, h8_, h9_, h10_, h11_, h12_, h13_, h14_, h15_, h16_, h17_, h18_, h19_⟩
    have n0_ : Aside0 (Kd.R k39 39 w46 w.heap.size (fun k_ => some k_ ≠ (.slice Ao30 t225.length co30 : Value).ownBlock ∧ some k_ ≠ (.slice Ao40 t231.length co40 : Value).ownBlock ∧ some k_ ≠ (v241 : Value).ownBlock) v218 t217) := ⟨h0_⟩
    have n1_ : Aside0 (Kd.R k39 39 w46 w.heap.size (fun k_ => some k_ ≠ (v218 : Value).ownBlock ∧ some k_ ≠ (.slice Ao40 t231.length co40 : Value).ownBlock ∧ some k_ ≠ (v241 : Value).ownBlock) (.slice Ao30 t225.length co30) t225) := ⟨h1_⟩
    have n2_ : Aside0 (Kd.R k39 39 w46 w.heap.size (fun k_ => some k_ ≠ (v218 : Value).ownBlock ∧ some k_ ≠ (.slice Ao30 t225.length co30 : Value).ownBlock ∧ some k_ ≠ (v241 : Value).ownBlock) (.slice Ao40 t231.length co40) t231) := ⟨h2_⟩
    have n3_ : Aside0 (Kd.R k39 39 w46 w.heap.size (fun k_ => some k_ ≠ (v218 : Value).ownBlock ∧ some k_ ≠ (.slice Ao30 t225.length co30 : Value).ownBlock ∧ some k_ ≠ (.slice Ao40 t231.length co40 : Value).ownBlock) v241 t240) := ⟨h3_⟩
    have n4_ : Aside0 (w46.heap[gb213]? = some (.cells #[.int .i64 a0_0, .slice A0_1 l0_1.length c0_1] 24 (0, 0))) := ⟨h4_⟩
    have n5_ : Aside0 (w46.heap[gb214]? = some (.cells #[.int .i64 a1_0, .int .i64 a1_1, .int .i64 a1_2, .int .i64 a1_3] 34 (0, 0))) := ⟨h5_⟩
    have n6_ : Aside0 (w46.heap[gb229]? = some (.cells #[.int .i64 t224, .slice Ao30 t225.length co30] 29 (0, 0))) := ⟨h6_⟩
    have n7_ : Aside0 (w46.heap[gb234]? = some (.cells #[.int .i64 t230, .slice Ao40 t231.length co40] 29 (0, 0))) := ⟨h7_⟩
    have n8_ : Aside0 (w46.heap[gb244]? = some (.cells #[.int .i64 0, .slice none 0 0] 29 (0, 0))) := ⟨h8_⟩
    have n9_ : Aside0 (w.heap.size ≤ gb244) := ⟨h9_⟩
    have n10_ : Aside0 (w.heap.size ≤ gb244) := ⟨h10_⟩
    have n11_ : Aside0 (gb213 ≠ gb244) := ⟨h11_⟩
    have n12_ : Aside0 (gb244 ≠ gb213) := ⟨h12_⟩
    have n13_ : Aside0 (gb214 ≠ gb244) := ⟨h13_⟩
    have n14_ : Aside0 (gb244 ≠ gb214) := ⟨h14_⟩
    have n15_ : Aside0 (gb229 ≠ gb244) := ⟨h15_⟩
    have n16_ : Aside0 (gb244 ≠ gb229) := ⟨h16_⟩
    have n17_ : Aside0 (gb234 ≠ gb244) := ⟨h17_⟩
    have n18_ : Aside0 (gb244 ≠ gb234) := ⟨h18_⟩
    have n19_ : Aside0 (Below w.heap.size w w46) := ⟨h19_⟩
    clear HO219
    clear HO227
    clear HO233
    clear BK213
    clear BK214
    clear BK229
    clear BK234
    clear HB
    clear h0_ h1_ h2_ h3_ h4_ h5_ h6_ h7_ h8_ h9_ h10_ h11_ h12_ h13_ h14_ h15_ h16_ h17_ h18_ h19_
    have HO219 := n0_
    have HO227 := n1_
    have HO233 := n2_
    have HO242 := n3_
    have BK213 := n4_
    have BK214 := n5_
    have BK229 := n6_
    have BK234 := n7_
    have BK244 := n8_
    have GW244 := n9_
    have GE244 := n10_
    have NB213_244 := n11_
    have NB244_213 := n12_
    have NB214_244 := n13_
    have NB244_214 := n14_
    have NB229_244 := n15_
    have NB244_229 := n16_
    have NB234_244 := n17_
    have NB244_234 := n18_
    have HB := n19_
    clear n0_ n1_ n2_ n3_ n4_ n5_ n6_ n7_ n8_ n9_ n10_ n11_ n12_ n13_ n14_ n15_ n16_ n17_ n18_ n19_
    have hHeld : w46.cell? ⟨gb234, 0, none⟩ = some (.int .i64 t230) ∧ w46.cell? ⟨gb234, 1, none⟩ = some (.slice Ao40 t231.length co40) ∧ w46.cell? ⟨gb214, 0, none⟩ = some (.int .i64 a1_0) ∧ w46.cell? ⟨gb214, 1, none⟩ = some (.int .i64 a1_1) ∧ w46.cell? ⟨gb214, 2, none⟩ = some (.int .i64 a1_2) ∧ w46.cell? ⟨gb214, 3, none⟩ = some (.int .i64 a1_3) := hS_
    obtain ⟨Ao48, co48, eo48⟩ := Kd.R_slice HO242.out
    (first | subst eo48 | (injection eo48 with f1_ f2_ f3_; have f4_ := f1_.symm; have f5_ := f3_.symm; clear f1_ f2_ f3_; subst f4_; subst f5_))
    refine norm_ (a' := ?_) ?_ ?_
    rotate_left
    · simp only [putAll, Act.put, List.setIfInBounds_toArray, List.set_cons_zero, List.set_cons_succ]
      rfl
    refine one_ (i := 8) (N := none) #[true, true, true, true, true, true, true, true, true, false] rfl rfl (one_of HT_.out (by kernel_rfl)) (by decide) (fun K hK => ?_)
    have hs47 : w46.cell? ⟨gb244, 0, none⟩ = some (.int .i64 0) := (blk_cell BK244.out 0).trans rfl
    have hfs47 := blk_frozen BK244.out 0
    have hns47_0 := NB213_244.out
    have hns47_1 := NB214_244.out
    have hns47_2 := NB229_244.out
    have hns47_3 := NB234_244.out
    have hms47_0 := NB244_213.out
    have hms47_1 := NB244_214.out
    have hms47_2 := NB244_229.out
    have hms47_3 := NB244_234.out
    have hs49 : w46.cell? ⟨gb244, 1, none⟩ = some (.slice none 0 0) := (blk_cell BK244.out 1).trans rfl
    have hfs49 := blk_frozen BK244.out 1
    have hns49_0 := NB213_244.out
    have hns49_1 := NB214_244.out
    have hns49_2 := NB229_244.out
    have hns49_3 := NB234_244.out
    have hms49_0 := NB244_213.out
    have hms49_1 := NB244_214.out
    have hms49_2 := NB244_229.out
    have hms49_3 := NB244_234.out
    refine skip_ (w1 := ?_) (by rfl) rfl ?_ ?_
    rotate_left
    · go_simp
      rfl
    refine hK.out _ _ ⟨((cell_far (p := ⟨gb244, _, none⟩) NB234_244.out _).trans (((cell_far (p := ⟨gb244, _, none⟩) NB234_244.out _).trans (hHeld.1)))), ((cell_far (p := ⟨gb244, _, none⟩) NB234_244.out _).trans (((cell_far (p := ⟨gb244, _, none⟩) NB234_244.out _).trans (hHeld.2.1)))), ((cell_far (p := ⟨gb244, _, none⟩) NB214_244.out _).trans (((cell_far (p := ⟨gb244, _, none⟩) NB214_244.out _).trans (hHeld.2.2.1)))), ((cell_far (p := ⟨gb244, _, none⟩) NB214_244.out _).trans (((cell_far (p := ⟨gb244, _, none⟩) NB214_244.out _).trans (hHeld.2.2.2.1)))), ((cell_far (p := ⟨gb244, _, none⟩) NB214_244.out _).trans (((cell_far (p := ⟨gb244, _, none⟩) NB214_244.out _).trans (hHeld.2.2.2.2.1)))), ((cell_far (p := ⟨gb244, _, none⟩) NB214_244.out _).trans (((cell_far (p := ⟨gb244, _, none⟩) NB214_244.out _).trans (hHeld.2.2.2.2.2))))⟩ (fun hHeld => ?_)
    clear hK K
    refine pure_ (i := 9) (N := some 10) (v := ?_) (a' := ?_) #[true, true, true, true, true, true, true, true, true, true] rfl rfl (any_of HT_.out (by kernel_rfl)) (fun _ _ _ h => h) (Or.inl ⟨by rfl, ?_⟩) ?_ ?_
    rotate_left
    · intro w'
      go_simp
      with_reducible rfl
    rotate_left
    · simp only [Act.put, sA, sB, sC, i64_w, i32_w]
      rfl
    refine done_ (done_of HT_.out (by kernel_rfl)) ?_
    go_upto_region 8 with (fail)
    go_cut [46] (fun v46 wc => ∃ (kq : Nat) (x46_15 : Bool), v46 = .bool x46_15 ∧ Aside0 (laws_FnExactAddClue.j0 kq t228 t243 x46_15 a0_0 l0_1 a1_0 a1_1 a1_2 a1_3 t224 t225 t230 t231 t239 t240 = some r) ∧ Aside0 (kq ≤ k) ∧ Aside0 (Kd.R k39 39 wc w.heap.size (fun k_ => some k_ ≠ ((.slice Ao40 t231.length co40) : Value).ownBlock ∧ some k_ ≠ ((.slice Ao48 t240.length co48) : Value).ownBlock) (.slice Ao30 t225.length co30) t225) ∧ Aside0 (Kd.R k39 39 wc w.heap.size (fun k_ => some k_ ≠ ((.slice Ao30 t225.length co30) : Value).ownBlock ∧ some k_ ≠ ((.slice Ao48 t240.length co48) : Value).ownBlock) (.slice Ao40 t231.length co40) t231) ∧ Aside0 (Kd.R k39 39 wc w.heap.size (fun k_ => some k_ ≠ ((.slice Ao30 t225.length co30) : Value).ownBlock ∧ some k_ ≠ ((.slice Ao40 t231.length co40) : Value).ownBlock) (.slice Ao48 t240.length co48) t240) ∧ Aside0 (wc.heap[gb213]? = some (.cells #[.int .i64 a0_0, (.slice A0_1 l0_1.length c0_1)] 24 (0, 0))) ∧ Aside0 (wc.heap[gb214]? = some (.cells #[.int .i64 a1_0, .int .i64 a1_1, .int .i64 a1_2, .int .i64 a1_3] 34 (0, 0))) ∧ Aside0 (wc.heap[gb229]? = some (.cells #[.int .i64 t224, (.slice Ao30 t225.length co30)] 29 (0, 0))) ∧ Aside0 (wc.heap[gb234]? = some (.cells #[.int .i64 t230, (.slice Ao40 t231.length co40)] 29 (0, 0))) ∧ Aside0 (wc.heap[gb244]? = some (.cells #[.int .i64 t239, (.slice Ao48 t240.length co48)] 29 (0, 0))) ∧ Aside0 (Below w.heap.size w wc))
    case first =>
      have H := HC16.out
      clear HC16
      replace H := Option.bind_eq_some_iff.mp H
      obtain ⟨t245, A500, H⟩ := H
      replace H : (if t245 = true then (laws_FnExactAddClue.j0 k t228 t243 (t243 != t228) a0_0 l0_1 a1_0 a1_1 a1_2 a1_3 t224 t225 t230 t231 t239 t240) else (laws_FnExactAddClue.j0 k t228 t243 true a0_0 l0_1 a1_0 a1_1 a1_2 a1_3 t224 t225 t230 t231 t239 t240)) = some r := H
      have A50 := Aside0.mk A500
      clear A500
      by_cases c51 : t245 = true
      · subst c51
        have H1 : (laws_FnExactAddClue.j0 k t228 t243 (t243 != t228) a0_0 l0_1 a1_0 a1_1 a1_2 a1_3 t224 t225 t230 t231 t239 t240) = some r := by rw [if_pos rfl] at H; exact H
        clear H
        have H := H1
        clear H1
        have H' := Aside0.mk H
        clear H
        have hnb52 := NB244_213.out
        have hnc52 := NB213_244.out
        have hnb53 := NB244_214.out
        have hnc53 := NB214_244.out
        have hnb54 := NB244_229.out
        have hnc54 := NB229_244.out
        have hnb55 := NB244_234.out
        have hnc55 := NB234_244.out
        have hcz56_0 : w46.cell? ⟨gb244, 0, none⟩ = some (.int .i64 0) := (blk_cell BK244.out 0).trans rfl
        have hcz56_1 : w46.cell? ⟨gb244, 1, none⟩ = some (.slice none 0 0) := (blk_cell BK244.out 1).trans rfl
        have hfz56_0 := blk_frozen BK244.out 0
        have hfz56_1 := blk_frozen BK244.out 1
        have hnb57 := NB229_213.out
        have hnc57 := NB213_229.out
        have hnb58 := NB229_214.out
        have hnc58 := NB214_229.out
        have hnb59 := NB229_234.out
        have hnc59 := NB234_229.out
        have hcz60_0 : w46.cell? ⟨gb229, 0, none⟩ = some (.int .i64 t224) := (blk_cell BK229.out 0).trans rfl
        have hcz60_1 : w46.cell? ⟨gb229, 1, none⟩ = some (.slice Ao30 t225.length co30) := (blk_cell BK229.out 1).trans rfl
        have hfz60_0 := blk_frozen BK229.out 0
        have hfz60_1 := blk_frozen BK229.out 1
        go_wp2_with (first | ((with_reducible refine gate_callee (f := 19) rfl ?_); refine goesL_ (some 40) rfl rfl Try.func19 (by kernel_rfl) rfl #[.agg #[.int .i64 t239, .slice Ao48 t240.length co48], .agg #[.int .i64 t224, .slice Ao30 t225.length co30]] rfl (by (try simp only [List.map_toArray, List.map_cons, List.map_nil]); first | done | rfl | (simp only [List.length_drop, List.length_take]; rfl)) ?_; (with_reducible refine (laws_eqPuzzle.calls k t239 _ _ t240 t224 _ _ t225 true _ ?side1 ?side2 ?side3 ?side4 A50.out).mono ?_); (case side1 => refine (Kd.R_reads' (e := 39) (base := w.heap.size) (ok := fun k_ => (some k_ ≠ (v218 : Value).ownBlock ∧ (some k_ ≠ (.slice Ao30 t225.length co30 : Value).ownBlock ∧ some k_ ≠ (.slice Ao40 t231.length co40 : Value).ownBlock))) (n := t240.length) (c := co48) ?_).2.2; exact (by (with_reducible repeat (first | apply Kd.R_alloc | apply Kd.R_drewN | apply Kd.R_drew)); exact (Kd.R_mono (Kd.R_far (p := ⟨gb244, 1, none⟩) (Kd.R_far (p := ⟨gb244, 0, none⟩) (Kd.R_types HO242.out BK244.out (by decide)) (fun _ hk => hk.2) (.int .i64 t239)) (fun _ hk => hk.2) (.slice Ao48 t240.length co48)) (fun _ h_ => h_.1)))); (case side2 => exact (Kd.R_reads' HO242.out).2.1); (case side3 => refine (Kd.R_reads' (e := 39) (base := w.heap.size) (ok := fun k_ => (some k_ ≠ (v218 : Value).ownBlock ∧ (some k_ ≠ (.slice Ao40 t231.length co40 : Value).ownBlock ∧ some k_ ≠ (.slice Ao48 t240.length co48 : Value).ownBlock))) (n := t225.length) (c := co30) ?_).2.2; exact (by (with_reducible repeat (first | apply Kd.R_alloc | apply Kd.R_drewN | apply Kd.R_drew)); exact (Kd.R_mono (Kd.R_far (p := ⟨gb244, 1, none⟩) (Kd.R_far (p := ⟨gb244, 0, none⟩) (Kd.R_types HO227.out BK244.out (by decide)) (fun _ hk => hk.2) (.int .i64 t239)) (fun _ hk => hk.2) (.slice Ao48 t240.length co48)) (fun _ h_ => h_.1)))); (case side4 => exact (Kd.R_reads' HO227.out).2.1); rintro e w61 ⟨rfl, hb⟩; refine ⟨_, rfl, ?_⟩; have n0_ := Aside0.mk (Kd.R_below (by (with_reducible repeat (first | apply Kd.R_alloc | apply Kd.R_drewN | apply Kd.R_drew)); exact (Kd.R_mono (Kd.R_far (p := ⟨gb244, 1, none⟩) (Kd.R_far (p := ⟨gb244, 0, none⟩) (Kd.R_types HO219.out BK244.out (by decide)) (fun _ hk => hk.2) (.int .i64 t239)) (fun _ hk => hk.2) (.slice Ao48 t240.length co48)) (fun _ h_ => h_.1))) hb); have n1_ := Aside0.mk (Kd.R_below (by (with_reducible repeat (first | apply Kd.R_alloc | apply Kd.R_drewN | apply Kd.R_drew)); exact (Kd.R_mono (Kd.R_far (p := ⟨gb244, 1, none⟩) (Kd.R_far (p := ⟨gb244, 0, none⟩) (Kd.R_types HO227.out BK244.out (by decide)) (fun _ hk => hk.2) (.int .i64 t239)) (fun _ hk => hk.2) (.slice Ao48 t240.length co48)) (fun _ h_ => h_.1))) hb); have n2_ := Aside0.mk (Kd.R_below (by (with_reducible repeat (first | apply Kd.R_alloc | apply Kd.R_drewN | apply Kd.R_drew)); exact (Kd.R_mono (Kd.R_far (p := ⟨gb244, 1, none⟩) (Kd.R_far (p := ⟨gb244, 0, none⟩) (Kd.R_types HO233.out BK244.out (by decide)) (fun _ hk => hk.2) (.int .i64 t239)) (fun _ hk => hk.2) (.slice Ao48 t240.length co48)) (fun _ h_ => h_.1))) hb); have n3_ := Aside0.mk (Kd.R_below (by (with_reducible repeat (first | apply Kd.R_alloc | apply Kd.R_drewN | apply Kd.R_drew)); exact (Kd.R_mono (Kd.R_far (p := ⟨gb244, 1, none⟩) (Kd.R_far (p := ⟨gb244, 0, none⟩) (Kd.R_types HO242.out BK244.out (by decide)) (fun _ hk => hk.2) (.int .i64 t239)) (fun _ hk => hk.2) (.slice Ao48 t240.length co48)) (fun _ h_ => h_.1))) hb); have n4_ := Aside0.mk (blk_below (g := gb213) (o := .cells #[.int .i64 a0_0, .slice A0_1 l0_1.length c0_1] 24 (0, 0)) (bf2_ BK213 NB213_244) hb); have n5_ := Aside0.mk (blk_below (g := gb214) (o := .cells #[.int .i64 a1_0, .int .i64 a1_1, .int .i64 a1_2, .int .i64 a1_3] 34 (0, 0)) (bf2_ BK214 NB214_244) hb); have n6_ := Aside0.mk (blk_below (g := gb229) (o := .cells #[.int .i64 t224, .slice Ao30 t225.length co30] 29 (0, 0)) (bf2_ BK229 NB229_244) hb); have n7_ := Aside0.mk (blk_below (g := gb234) (o := .cells #[.int .i64 t230, .slice Ao40 t231.length co40] 29 (0, 0)) (bf2_ BK234 NB234_244) hb); have n8_ := Aside0.mk (blk_below (g := gb244) (o := .cells #[.int .i64 t239, .slice Ao48 t240.length co48] 29 (0, 0)) (by (with_reducible repeat (first | refine blk_drewN ?_ _ | refine blk_drew ?_ | refine blk_alloc ?_ _)); refine blk_put (cs := #[.int .i64 t239, .slice none 0 0]) ?_ 1 _ rfl; (with_reducible repeat (first | refine blk_drewN ?_ _ | refine blk_drew ?_ | refine blk_alloc ?_ _)); refine blk_put (cs := #[.int .i64 0, .slice none 0 0]) ?_ 0 _ rfl; (with_reducible repeat (first | refine blk_drewN ?_ _ | refine blk_drew ?_ | refine blk_alloc ?_ _)); exact BK244.out) hb); have n9_ := Aside0.mk (below_step (hbg_) hb); clear HO219; clear HO227; clear HO233; clear HO242; clear BK213; clear BK214; clear BK229; clear BK234; clear BK244; clear HB; have HO219 := n0_; have HO227 := n1_; have HO233 := n2_; have HO242 := n3_; have BK213 := n4_; have BK214 := n5_; have BK229 := n6_; have BK234 := n7_; have BK244 := n8_; have HB := n9_; clear n0_ n1_ n2_ n3_ n4_ n5_ n6_ n7_ n8_ n9_; (try clear hb); (try clear hb2); (try clear hk); (try clear hi)))
        go_meet
        case rel => exact ⟨_, ((t243 != t228)), (by first | rfl | (simp; done) | (simp [*]; done)), H', ⟨by first | omega | exact Nat.le_refl _⟩, ⟨by (with_reducible repeat (first | apply Kd.R_alloc | apply Kd.R_drewN | apply Kd.R_drew)); exact Kd.R_mono HO227.out (fun _ hk => ⟨hk.2.1, hk.2.2⟩)⟩, ⟨by (with_reducible repeat (first | apply Kd.R_alloc | apply Kd.R_drewN | apply Kd.R_drew)); exact Kd.R_mono HO233.out (fun _ hk => ⟨hk.2.1, hk.2.2⟩)⟩, ⟨by (with_reducible repeat (first | apply Kd.R_alloc | apply Kd.R_drewN | apply Kd.R_drew)); exact Kd.R_mono HO242.out (fun _ hk => ⟨hk.2.1, hk.2.2⟩)⟩, ⟨bk_ BK213.out⟩, ⟨bk_ BK214.out⟩, ⟨bk_ BK229.out⟩, ⟨bk_ BK234.out⟩, ⟨bk_ BK244.out⟩, ⟨hbg_⟩⟩
      · replace c51 := Bool.eq_false_iff.mpr c51
        subst c51
        have H1 : (laws_FnExactAddClue.j0 k t228 t243 true a0_0 l0_1 a1_0 a1_1 a1_2 a1_3 t224 t225 t230 t231 t239 t240) = some r := by rw [if_neg (show ¬ (false = true) by decide)] at H; exact H
        clear H
        have H := H1
        clear H1
        have H' := Aside0.mk H
        clear H
        have hnb62 := NB244_213.out
        have hnc62 := NB213_244.out
        have hnb63 := NB244_214.out
        have hnc63 := NB214_244.out
        have hnb64 := NB244_229.out
        have hnc64 := NB229_244.out
        have hnb65 := NB244_234.out
        have hnc65 := NB234_244.out
        have hcz66_0 : w46.cell? ⟨gb244, 0, none⟩ = some (.int .i64 0) := (blk_cell BK244.out 0).trans rfl
        have hcz66_1 : w46.cell? ⟨gb244, 1, none⟩ = some (.slice none 0 0) := (blk_cell BK244.out 1).trans rfl
        have hfz66_0 := blk_frozen BK244.out 0
        have hfz66_1 := blk_frozen BK244.out 1
        have hnb67 := NB229_213.out
        have hnc67 := NB213_229.out
        have hnb68 := NB229_214.out
        have hnc68 := NB214_229.out
        have hnb69 := NB229_234.out
        have hnc69 := NB234_229.out
        have hcz70_0 : w46.cell? ⟨gb229, 0, none⟩ = some (.int .i64 t224) := (blk_cell BK229.out 0).trans rfl
        have hcz70_1 : w46.cell? ⟨gb229, 1, none⟩ = some (.slice Ao30 t225.length co30) := (blk_cell BK229.out 1).trans rfl
        have hfz70_0 := blk_frozen BK229.out 0
        have hfz70_1 := blk_frozen BK229.out 1
        go_wp2_with (first | ((with_reducible refine gate_callee (f := 19) rfl ?_); refine goesL_ (some 40) rfl rfl Try.func19 (by kernel_rfl) rfl #[.agg #[.int .i64 t239, .slice Ao48 t240.length co48], .agg #[.int .i64 t224, .slice Ao30 t225.length co30]] rfl (by (try simp only [List.map_toArray, List.map_cons, List.map_nil]); first | done | rfl | (simp only [List.length_drop, List.length_take]; rfl)) ?_; (with_reducible refine (laws_eqPuzzle.calls k t239 _ _ t240 t224 _ _ t225 false _ ?side1 ?side2 ?side3 ?side4 A50.out).mono ?_); (case side1 => refine (Kd.R_reads' (e := 39) (base := w.heap.size) (ok := fun k_ => (some k_ ≠ (v218 : Value).ownBlock ∧ (some k_ ≠ (.slice Ao30 t225.length co30 : Value).ownBlock ∧ some k_ ≠ (.slice Ao40 t231.length co40 : Value).ownBlock))) (n := t240.length) (c := co48) ?_).2.2; exact (by (with_reducible repeat (first | apply Kd.R_alloc | apply Kd.R_drewN | apply Kd.R_drew)); exact (Kd.R_mono (Kd.R_far (p := ⟨gb244, 1, none⟩) (Kd.R_far (p := ⟨gb244, 0, none⟩) (Kd.R_types HO242.out BK244.out (by decide)) (fun _ hk => hk.2) (.int .i64 t239)) (fun _ hk => hk.2) (.slice Ao48 t240.length co48)) (fun _ h_ => h_.1)))); (case side2 => exact (Kd.R_reads' HO242.out).2.1); (case side3 => refine (Kd.R_reads' (e := 39) (base := w.heap.size) (ok := fun k_ => (some k_ ≠ (v218 : Value).ownBlock ∧ (some k_ ≠ (.slice Ao40 t231.length co40 : Value).ownBlock ∧ some k_ ≠ (.slice Ao48 t240.length co48 : Value).ownBlock))) (n := t225.length) (c := co30) ?_).2.2; exact (by (with_reducible repeat (first | apply Kd.R_alloc | apply Kd.R_drewN | apply Kd.R_drew)); exact (Kd.R_mono (Kd.R_far (p := ⟨gb244, 1, none⟩) (Kd.R_far (p := ⟨gb244, 0, none⟩) (Kd.R_types HO227.out BK244.out (by decide)) (fun _ hk => hk.2) (.int .i64 t239)) (fun _ hk => hk.2) (.slice Ao48 t240.length co48)) (fun _ h_ => h_.1)))); (case side4 => exact (Kd.R_reads' HO227.out).2.1); rintro e w71 ⟨rfl, hb⟩; refine ⟨_, rfl, ?_⟩; have n0_ := Aside0.mk (Kd.R_below (by (with_reducible repeat (first | apply Kd.R_alloc | apply Kd.R_drewN | apply Kd.R_drew)); exact (Kd.R_mono (Kd.R_far (p := ⟨gb244, 1, none⟩) (Kd.R_far (p := ⟨gb244, 0, none⟩) (Kd.R_types HO219.out BK244.out (by decide)) (fun _ hk => hk.2) (.int .i64 t239)) (fun _ hk => hk.2) (.slice Ao48 t240.length co48)) (fun _ h_ => h_.1))) hb); have n1_ := Aside0.mk (Kd.R_below (by (with_reducible repeat (first | apply Kd.R_alloc | apply Kd.R_drewN | apply Kd.R_drew)); exact (Kd.R_mono (Kd.R_far (p := ⟨gb244, 1, none⟩) (Kd.R_far (p := ⟨gb244, 0, none⟩) (Kd.R_types HO227.out BK244.out (by decide)) (fun _ hk => hk.2) (.int .i64 t239)) (fun _ hk => hk.2) (.slice Ao48 t240.length co48)) (fun _ h_ => h_.1))) hb); have n2_ := Aside0.mk (Kd.R_below (by (with_reducible repeat (first | apply Kd.R_alloc | apply Kd.R_drewN | apply Kd.R_drew)); exact (Kd.R_mono (Kd.R_far (p := ⟨gb244, 1, none⟩) (Kd.R_far (p := ⟨gb244, 0, none⟩) (Kd.R_types HO233.out BK244.out (by decide)) (fun _ hk => hk.2) (.int .i64 t239)) (fun _ hk => hk.2) (.slice Ao48 t240.length co48)) (fun _ h_ => h_.1))) hb); have n3_ := Aside0.mk (Kd.R_below (by (with_reducible repeat (first | apply Kd.R_alloc | apply Kd.R_drewN | apply Kd.R_drew)); exact (Kd.R_mono (Kd.R_far (p := ⟨gb244, 1, none⟩) (Kd.R_far (p := ⟨gb244, 0, none⟩) (Kd.R_types HO242.out BK244.out (by decide)) (fun _ hk => hk.2) (.int .i64 t239)) (fun _ hk => hk.2) (.slice Ao48 t240.length co48)) (fun _ h_ => h_.1))) hb); have n4_ := Aside0.mk (blk_below (g := gb213) (o := .cells #[.int .i64 a0_0, .slice A0_1 l0_1.length c0_1] 24 (0, 0)) (bf2_ BK213 NB213_244) hb); have n5_ := Aside0.mk (blk_below (g := gb214) (o := .cells #[.int .i64 a1_0, .int .i64 a1_1, .int .i64 a1_2, .int .i64 a1_3] 34 (0, 0)) (bf2_ BK214 NB214_244) hb); have n6_ := Aside0.mk (blk_below (g := gb229) (o := .cells #[.int .i64 t224, .slice Ao30 t225.length co30] 29 (0, 0)) (bf2_ BK229 NB229_244) hb); have n7_ := Aside0.mk (blk_below (g := gb234) (o := .cells #[.int .i64 t230, .slice Ao40 t231.length co40] 29 (0, 0)) (bf2_ BK234 NB234_244) hb); have n8_ := Aside0.mk (blk_below (g := gb244) (o := .cells #[.int .i64 t239, .slice Ao48 t240.length co48] 29 (0, 0)) (by (with_reducible repeat (first | refine blk_drewN ?_ _ | refine blk_drew ?_ | refine blk_alloc ?_ _)); refine blk_put (cs := #[.int .i64 t239, .slice none 0 0]) ?_ 1 _ rfl; (with_reducible repeat (first | refine blk_drewN ?_ _ | refine blk_drew ?_ | refine blk_alloc ?_ _)); refine blk_put (cs := #[.int .i64 0, .slice none 0 0]) ?_ 0 _ rfl; (with_reducible repeat (first | refine blk_drewN ?_ _ | refine blk_drew ?_ | refine blk_alloc ?_ _)); exact BK244.out) hb); have n9_ := Aside0.mk (below_step (hbg_) hb); clear HO219; clear HO227; clear HO233; clear HO242; clear BK213; clear BK214; clear BK229; clear BK234; clear BK244; clear HB; have HO219 := n0_; have HO227 := n1_; have HO233 := n2_; have HO242 := n3_; have BK213 := n4_; have BK214 := n5_; have BK229 := n6_; have BK234 := n7_; have BK244 := n8_; have HB := n9_; clear n0_ n1_ n2_ n3_ n4_ n5_ n6_ n7_ n8_ n9_; (try clear hb); (try clear hb2); (try clear hk); (try clear hi)))
        go_meet
        case rel => exact ⟨_, (true), (by first | rfl | (simp; done) | (simp [*]; done)), H', ⟨by first | omega | exact Nat.le_refl _⟩, ⟨by (with_reducible repeat (first | apply Kd.R_alloc | apply Kd.R_drewN | apply Kd.R_drew)); exact Kd.R_mono HO227.out (fun _ hk => ⟨hk.2.1, hk.2.2⟩)⟩, ⟨by (with_reducible repeat (first | apply Kd.R_alloc | apply Kd.R_drewN | apply Kd.R_drew)); exact Kd.R_mono HO233.out (fun _ hk => ⟨hk.2.1, hk.2.2⟩)⟩, ⟨by (with_reducible repeat (first | apply Kd.R_alloc | apply Kd.R_drewN | apply Kd.R_drew)); exact Kd.R_mono HO242.out (fun _ hk => ⟨hk.2.1, hk.2.2⟩)⟩, ⟨bk_ BK213.out⟩, ⟨bk_ BK214.out⟩, ⟨bk_ BK229.out⟩, ⟨bk_ BK234.out⟩, ⟨bk_ BK244.out⟩, ⟨hbg_⟩⟩
    case rest =>
      clear HC16
      try clear c1
      try clear c2
      try clear p2
      try clear c5
      try clear c6
      try clear c19
      try clear c21
      try clear c25
      try clear c51
      try clear c52
      try clear c53
      try clear c54
      try clear c55
      try clear c57
      try clear c58
      try clear c59
      try clear c62
      try clear c63
      try clear c64
      try clear c65
      try clear c67
      try clear c68
      try clear c69
      try clear hcz56_0
      try clear hcz56_1
      try clear hcz60_0
      try clear hcz60_1
      try clear hcz66_0
      try clear hcz66_1
      try clear hcz70_0
      try clear hcz70_1
      try clear hfz56_0
      try clear hfz56_1
      try clear hfz60_0
      try clear hfz60_1
      try clear hfz66_0
      try clear hfz66_1
      try clear hfz70_0
      try clear hfz70_1
      obtain ⟨kq, x46_15, rfl, HA, HJ15, HO_230001, HO_235001, HO_245001, BK213, BK214, BK229, BK234, BK244, HB⟩ := hcut
      cases kq with
      | zero => exact absurd HA.out (by simp [laws_FnExactAddClue.j0])
      | succ kj15 =>
        have H := HA.out
        clear HA
        simp only [laws_FnExactAddClue.j0] at H
        by_cases c72 : x46_15 = true
        · subst c72
          have H1 : (some false) = some r := by rw [if_pos rfl] at H; exact H
          clear H
          have H := H1
          clear H1
          exact absurd (Option.some.inj H) (by rw [hr_]; decide)
        · replace c72 := Bool.eq_false_iff.mpr c72
          subst c72
          have H1 : ((laws_toPuzzle.f kj15 a0_0 l0_1).bind fun bt246 => ((laws_eqPuzzle.f kj15 t230 t231 bt246.1 bt246.2).bind fun t250 => (if t250 = true then ((laws_markPuzzle.f kj15 t230 t231 1).bind fun bt251 => (if bt251.1 < 0 then (laws_FnExactAddClue.j1 kj15 t228 true a0_0 l0_1 a1_0 a1_1 a1_2 a1_3 t224 t225 t239 t240) else ((laws_eqPuzzle.f kj15 t239 t240 t224 t225).bind fun t253 => (if t253 = true then (laws_FnExactAddClue.j1 kj15 t228 (t243 != t228) a0_0 l0_1 a1_0 a1_1 a1_2 a1_3 t224 t225 t239 t240) else (laws_FnExactAddClue.j1 kj15 t228 true a0_0 l0_1 a1_0 a1_1 a1_2 a1_3 t224 t225 t239 t240))))) else (some false)))) = some r := by rw [if_neg (show ¬ (false = true) by decide)] at H; exact H
          clear H
          have H := H1
          clear H1
          replace H := Option.bind_eq_some_iff.mp H
          obtain ⟨⟨t246, t247⟩, A730, H⟩ := H
          replace H : ((laws_eqPuzzle.f kj15 t230 t231 t246 t247).bind fun t250 => (if t250 = true then ((laws_markPuzzle.f kj15 t230 t231 1).bind fun bt251 => (if bt251.1 < 0 then (laws_FnExactAddClue.j1 kj15 t228 true a0_0 l0_1 a1_0 a1_1 a1_2 a1_3 t224 t225 t239 t240) else ((laws_eqPuzzle.f kj15 t239 t240 t224 t225).bind fun t253 => (if t253 = true then (laws_FnExactAddClue.j1 kj15 t228 (t243 != t228) a0_0 l0_1 a1_0 a1_1 a1_2 a1_3 t224 t225 t239 t240) else (laws_FnExactAddClue.j1 kj15 t228 true a0_0 l0_1 a1_0 a1_1 a1_2 a1_3 t224 t225 t239 t240))))) else (some false))) = some r := H
          have A73 := Aside0.mk A730
          clear A730
          replace H := Option.bind_eq_some_iff.mp H
          obtain ⟨t250, A740, H⟩ := H
          replace H : (if t250 = true then ((laws_markPuzzle.f kj15 t230 t231 1).bind fun bt251 => (if bt251.1 < 0 then (laws_FnExactAddClue.j1 kj15 t228 true a0_0 l0_1 a1_0 a1_1 a1_2 a1_3 t224 t225 t239 t240) else ((laws_eqPuzzle.f kj15 t239 t240 t224 t225).bind fun t253 => (if t253 = true then (laws_FnExactAddClue.j1 kj15 t228 (t243 != t228) a0_0 l0_1 a1_0 a1_1 a1_2 a1_3 t224 t225 t239 t240) else (laws_FnExactAddClue.j1 kj15 t228 true a0_0 l0_1 a1_0 a1_1 a1_2 a1_3 t224 t225 t239 t240))))) else (some false)) = some r := H
          have A74 := Aside0.mk A740
          clear A740
          by_cases c75 : t250 = true
          · subst c75
            have H1 : ((laws_markPuzzle.f kj15 t230 t231 1).bind fun bt251 => (if bt251.1 < 0 then (laws_FnExactAddClue.j1 kj15 t228 true a0_0 l0_1 a1_0 a1_1 a1_2 a1_3 t224 t225 t239 t240) else ((laws_eqPuzzle.f kj15 t239 t240 t224 t225).bind fun t253 => (if t253 = true then (laws_FnExactAddClue.j1 kj15 t228 (t243 != t228) a0_0 l0_1 a1_0 a1_1 a1_2 a1_3 t224 t225 t239 t240) else (laws_FnExactAddClue.j1 kj15 t228 true a0_0 l0_1 a1_0 a1_1 a1_2 a1_3 t224 t225 t239 t240))))) = some r := by rw [if_pos rfl] at H; exact H
            clear H
            have H := H1
            clear H1
            replace H := Option.bind_eq_some_iff.mp H
            obtain ⟨⟨t251, t252⟩, A760, H⟩ := H
            replace H : (if t251 < 0 then (laws_FnExactAddClue.j1 kj15 t228 true a0_0 l0_1 a1_0 a1_1 a1_2 a1_3 t224 t225 t239 t240) else ((laws_eqPuzzle.f kj15 t239 t240 t224 t225).bind fun t253 => (if t253 = true then (laws_FnExactAddClue.j1 kj15 t228 (t243 != t228) a0_0 l0_1 a1_0 a1_1 a1_2 a1_3 t224 t225 t239 t240) else (laws_FnExactAddClue.j1 kj15 t228 true a0_0 l0_1 a1_0 a1_1 a1_2 a1_3 t224 t225 t239 t240)))) = some r := H
            have A76 := Aside0.mk A760
            clear A760
            have HC77 := Aside0.mk H
            clear H
            try go_wp2
            have n0_ := Aside0.mk (Kd.R_drew HO_230001.out)
            have n1_ := Aside0.mk (Kd.R_drew HO_235001.out)
            have n2_ := Aside0.mk (Kd.R_drew HO_245001.out)
            have n3_ := Aside0.mk (blk_drew BK213.out)
            have n4_ := Aside0.mk (blk_drew BK214.out)
            have n5_ := Aside0.mk (blk_drew BK229.out)
            have n6_ := Aside0.mk (blk_drew BK234.out)
            have n7_ := Aside0.mk (blk_drew BK244.out)
            have n8_ := Aside0.mk (below_drew1 HB.out)
            clear HO_230001
            clear HO_235001
            clear HO_245001
            clear BK213
            clear BK214
            clear BK229
            clear BK234
            clear BK244
            clear HB
            have HO_230001 := n0_
            have HO_235001 := n1_
            have HO_245001 := n2_
            have BK213 := n3_
            have BK214 := n4_
            have BK229 := n5_
            have BK234 := n6_
            have BK244 := n7_
            have HB := n8_
            clear n0_ n1_ n2_ n3_ n4_ n5_ n6_ n7_ n8_
            refine start_ (n := 5) (S := fun w' => w'.cell? ⟨gb234, 0, none⟩ = some (.int .i64 t230) ∧ w'.cell? ⟨gb234, 1, none⟩ = some (.slice Ao40 t231.length co40) ∧ w'.cell? ⟨gb213, 0, none⟩ = some (.int .i64 a0_0) ∧ w'.cell? ⟨gb213, 1, none⟩ = some (.slice A0_1 l0_1.length c0_1)) (ds := []) #[false, false, false, false, false] (by kernel_rfl) rfl rfl ⟨(blk_cell BK234.out 0).trans rfl, (blk_cell BK234.out 1).trans rfl, (blk_cell BK213.out 0).trans rfl, (blk_cell BK213.out 1).trans rfl⟩ (fun hHeld => ?_)
            generalize wc.drew = w78 at HO_230001 HO_235001 HO_245001 BK213 BK214 BK229 BK234 BK244 HB hHeld ⊢
            refine take_ (i := 0) (N := some 47) (v := ?_) (a' := ?_) #[true, false, false, false, false] rfl rfl (by kernel_rfl) (fun _ _ _ h => h) (Or.inl ⟨by rfl, ?_⟩) hHeld ?_ ?_
            rotate_left
            · rintro w' ⟨s0, s1, s2, s3⟩
              go_simp
              with_reducible rfl
            rotate_left
            · simp only [Act.put, sA, sB, sC, i64_w, i32_w]
              rfl
            refine take_ (i := 1) (N := some 48) (v := ?_) (a' := ?_) #[true, true, false, false, false] rfl rfl (by kernel_rfl) (fun _ _ _ h => h) (Or.inl ⟨by rfl, ?_⟩) hHeld ?_ ?_
            rotate_left
            · rintro w' ⟨s0, s1, s2, s3⟩
              go_simp
              with_reducible rfl
            rotate_left
            · simp only [Act.put, sA, sB, sC, i64_w, i32_w]
              rfl
            refine one_ (i := 2) (N := some 49) #[true, true, true, false, false] rfl rfl (by kernel_rfl) (by decide) (fun K hK => ?_)
            refine goes_ Try.func17 (by kernel_rfl) rfl #[.agg #[.int .i64 a0_0, .slice A0_1 l0_1.length c0_1]] (by rfl) rfl rfl (by (try simp only [List.map_toArray, List.map_cons, List.map_nil]); first | done | rfl | (simp only [List.length_drop, List.length_take]; rfl)) ?_
            with_reducible refine (laws_toPuzzle.calls kj15 a0_0 _ _ l0_1 t246 t247 _ ?side1 ?side2 A73.out).mono ?_
            (case side1 => repeat (first | exact (Kd.C_below HR0_1.out HB.out) | (with_reducible refine Kd.C_alloc ?_ _) | (with_reducible refine Kd.C_drewN ?_ _) | (with_reducible refine Kd.C_drew ?_)))
            (case side2 => exact HC0_1.out)
            rintro e w79 ⟨v248, rfl, ho0, hb⟩
            refine ⟨_, rfl, ?_⟩
            have n0_ := Aside0.mk (Kd.R_elder' (rk_ HO_230001.out) (Kd.R_base ho0) hb)
            have n1_ := Aside0.mk (Kd.R_elder' (rk_ HO_235001.out) (Kd.R_base ho0) hb)
            have n2_ := Aside0.mk (Kd.R_elder' (rk_ HO_245001.out) (Kd.R_base ho0) hb)
            have n3_ := Aside0.mk (Kd.R_lower (Kd.R_new' (Kd.R_new' (Kd.R_new' ho0 (Kd.R_lt (rk_ HO_230001.out))) (Kd.R_lt (rk_ HO_235001.out))) (Kd.R_lt (rk_ HO_245001.out))) (below_size (hbg_)))
            have n4_ := bb_ BK213 hb
            have n5_ := bb_ BK214 hb
            have n6_ := bb_ BK229 hb
            have n7_ := bb_ BK234 hb
            have n8_ := bb_ BK244 hb
            have n9_ := Aside0.mk (below_step (hbg_) hb)
            clear HO_230001
            clear HO_235001
            clear HO_245001
            clear BK213
            clear BK214
            clear BK229
            clear BK234
            clear BK244
            clear HB
            have HO_230001 := n0_
            have HO_235001 := n1_
            have HO_245001 := n2_
            have HO249 := n3_
            have BK213 := n4_
            have BK214 := n5_
            have BK229 := n6_
            have BK234 := n7_
            have BK244 := n8_
            have HB := n9_
            clear n0_ n1_ n2_ n3_ n4_ n5_ n6_ n7_ n8_ n9_
            (try clear hb)
            (try clear hb2)
            (try clear hk)
            (try clear hi)
            (try clear ho0)
            obtain ⟨Ao80, co80, eo80⟩ := Kd.R_slice HO249.out
            (first | subst eo80 | (injection eo80 with f1_ f2_ f3_; have f4_ := f1_.symm; have f5_ := f3_.symm; clear f1_ f2_ f3_; subst f4_; subst f5_))
            refine hK.out _ _ ⟨(blk_cell BK234.out 0).trans rfl, (blk_cell BK234.out 1).trans rfl, (blk_cell BK213.out 0).trans rfl, (blk_cell BK213.out 1).trans rfl⟩ (fun hHeld => ?_)
            clear hK K
            refine norm_ (a' := ?_) ?_ ?_
            rotate_left
            · show Act.put _ (some 49) _ = _
              simp only [Act.put, sA, sB, sC, i64_w, i32_w]
              rfl
            refine one_ (i := 3) (N := some 50) #[true, true, true, true, false] rfl rfl (by kernel_rfl) (by decide) (fun K hK => ?_)
            refine goes_ Try.func19 (by kernel_rfl) rfl #[.agg #[.int .i64 t230, .slice Ao40 t231.length co40], .agg #[.int .i64 t246, .slice Ao80 t247.length co80]] (by rfl) rfl rfl (by (try simp only [List.map_toArray, List.map_cons, List.map_nil]); first | done | rfl | (simp only [List.length_drop, List.length_take]; rfl)) ?_
            with_reducible refine (laws_eqPuzzle.calls kj15 t230 _ _ t231 t246 _ _ t247 true _ ?side1 ?side2 ?side3 ?side4 A74.out).mono ?_
            (case side1 => repeat (first | exact (Kd.R_reads' HO_235001.out).2.2 | (with_reducible refine Kd.C_alloc ?_ _) | (with_reducible refine Kd.C_drewN ?_ _) | (with_reducible refine Kd.C_drew ?_)))
            (case side2 => exact (Kd.R_reads' HO_235001.out).2.1)
            (case side3 => repeat (first | exact (Kd.R_reads' HO249.out).2.2 | (with_reducible refine Kd.C_alloc ?_ _) | (with_reducible refine Kd.C_drewN ?_ _) | (with_reducible refine Kd.C_drew ?_)))
            (case side4 => exact (Kd.R_reads' HO249.out).2.1)
            rintro e w81 ⟨rfl, hb⟩
            refine ⟨_, rfl, ?_⟩
            have n0_ := Aside0.mk (Kd.R_below (rk_ HO_230001.out) hb)
            have n1_ := Aside0.mk (Kd.R_below (rk_ HO_235001.out) hb)
            have n2_ := Aside0.mk (Kd.R_below (rk_ HO_245001.out) hb)
            have n3_ := Aside0.mk (Kd.R_below (rk_ HO249.out) hb)
            have n4_ := bb_ BK213 hb
            have n5_ := bb_ BK214 hb
            have n6_ := bb_ BK229 hb
            have n7_ := bb_ BK234 hb
            have n8_ := bb_ BK244 hb
            have n9_ := Aside0.mk (below_step (hbg_) hb)
            clear HO_230001
            clear HO_235001
            clear HO_245001
            clear HO249
            clear BK213
            clear BK214
            clear BK229
            clear BK234
            clear BK244
            clear HB
            have HO_230001 := n0_
            have HO_235001 := n1_
            have HO_245001 := n2_
            have HO249 := n3_
            have BK213 := n4_
            have BK214 := n5_
            have BK229 := n6_
            have BK234 := n7_
            have BK244 := n8_
            have HB := n9_
            clear n0_ n1_ n2_ n3_ n4_ n5_ n6_ n7_ n8_ n9_
            (try clear hb)
            (try clear hb2)
            (try clear hk)
            (try clear hi)
            refine hK.out _ _ ⟨(blk_cell BK234.out 0).trans rfl, (blk_cell BK234.out 1).trans rfl, (blk_cell BK213.out 0).trans rfl, (blk_cell BK213.out 1).trans rfl⟩ (fun hHeld => ?_)
            clear hK K
            refine norm_ (a' := ?_) ?_ ?_
            rotate_left
            · show Act.put _ (some 50) _ = _
              simp only [Act.put, sA, sB, sC, i64_w, i32_w]
              rfl
            refine pure_ (i := 4) (N := some 51) (v := ?_) (a' := ?_) #[true, true, true, true, true] rfl rfl (by kernel_rfl) (fun _ _ _ h => h) (Or.inl ⟨by rfl, ?_⟩) ?_ ?_
            rotate_left
            · intro w'
              go_simp
              with_reducible rfl
            rotate_left
            · simp only [Act.put, sA, sB, sC, i64_w, i32_w]
              rfl
            refine done_ (by kernel_rfl) ?_
            have hnb82 := NB234_213.out
            have hnc82 := NB213_234.out
            have hnb83 := NB234_214.out
            have hnc83 := NB214_234.out
            have hnb84 := NB234_229.out
            have hnc84 := NB229_234.out
            have hnb85 := NB234_244.out
            have hnc85 := NB244_234.out
            have hcz86_0 : w81.cell? ⟨gb234, 0, none⟩ = some (.int .i64 t230) := (blk_cell BK234.out 0).trans rfl
            have hcz86_1 : w81.cell? ⟨gb234, 1, none⟩ = some (.slice Ao40 t231.length co40) := (blk_cell BK234.out 1).trans rfl
            have hfz86_0 := blk_frozen BK234.out 0
            have hfz86_1 := blk_frozen BK234.out 1
            go_upto_region 14 with (first | ((with_reducible refine gate_callee (f := 26) rfl ?_); refine goesL_ (some 54) rfl rfl Try.func26 (by kernel_rfl) rfl #[.agg #[.int .i64 t230, .slice Ao40 t231.length co40], .int .i64 1] rfl (by (try simp only [List.map_toArray, List.map_cons, List.map_nil]); first | done | rfl | (simp only [List.length_drop, List.length_take]; rfl)) ?_; (with_reducible refine (laws_markPuzzle.calls kj15 t230 (fun k_ => some k_ = (.slice Ao40 t231.length co40 : Value).ownBlock) (.slice Ao40 t231.length co40) t231 1 t251 t252 w _ ?side1 ?side2 A76.out).mono ?_); (case side1 => repeat (first | (with_reducible first | exact HB.out | apply below_alloc | apply pw_below_drewN | apply below_drew1 | refine below_set ?_ GE213.out | refine below_set ?_ GE214.out | refine below_set ?_ GE229.out | refine below_set ?_ GE234.out | refine below_set ?_ GE244.out) | exact HB.out)); (case side2 => exact Kd.R_tight rfl HO_235001.out); rintro e w87 ⟨rfl, hy0, hb, hkp⟩; refine ⟨_, rfl, ?_⟩; have n0_ := Aside0.mk (Kd.R_mono (ok' := fun k_ => some k_ ≠ (.slice Ao40 t231.length co40 : Value).ownBlock ∧ some k_ ≠ (.slice Ao48 t240.length co48 : Value).ownBlock ∧ some k_ ≠ (.slice Ao80 t247.length co80 : Value).ownBlock) (Kd.R_keptB (HO_230001.out) hkp (fun k_ hk_ hs_ => (hk_.1.1) hs_)) (fun k_ hk_ => ⟨hk_.1.1.1, hk_.1.1.2, hk_.1.2⟩)); have n1_ := Aside0.mk (Kd.R_reok rfl hy0 (fun k_ e_ => HO_235001.out.1 k_ e_)); have n2_ := Aside0.mk (Kd.R_mono (ok' := fun k_ => some k_ ≠ (.slice Ao30 t225.length co30 : Value).ownBlock ∧ some k_ ≠ (.slice Ao40 t231.length co40 : Value).ownBlock ∧ some k_ ≠ (.slice Ao80 t247.length co80 : Value).ownBlock) (Kd.R_keptB (HO_245001.out) hkp (fun k_ hk_ hs_ => (hk_.1.2) hs_)) (fun k_ hk_ => ⟨hk_.1.1.1, hk_.1.1.2, hk_.1.2⟩)); have n3_ := Aside0.mk (blk_kept (bk_ BK213.out) hkp (fun hs_ => (fun e_ => (Kd.R_ne HO_235001.out BK213.out (by decide)) e_) hs_)); have n4_ := Aside0.mk (blk_kept (bk_ BK214.out) hkp (fun hs_ => (fun e_ => (Kd.R_ne HO_235001.out BK214.out (by decide)) e_) hs_)); have n5_ := Aside0.mk (blk_kept (bk_ BK229.out) hkp (fun hs_ => (fun e_ => (Kd.R_ne HO_235001.out BK229.out (by decide)) e_) hs_)); have n6_ := Aside0.mk (blk_kept (bk_ BK234.out) hkp (fun hs_ => (fun e_ => (Kd.R_ne HO_235001.out BK234.out (by decide)) e_) hs_)); have n7_ := Aside0.mk (blk_kept (bk_ BK244.out) hkp (fun hs_ => (fun e_ => (Kd.R_ne HO_235001.out BK244.out (by decide)) e_) hs_)); have n8_ := Aside0.mk (Kd.R_mono (ok' := fun k_ => some k_ ≠ (.slice Ao30 t225.length co30 : Value).ownBlock ∧ some k_ ≠ (.slice Ao40 t231.length co40 : Value).ownBlock ∧ some k_ ≠ (.slice Ao48 t240.length co48 : Value).ownBlock) (Kd.R_keptB (HO249.out) hkp (fun k_ hk_ hs_ => (hk_.1.2) hs_)) (fun k_ hk_ => ⟨hk_.1.1.1.2, hk_.1.1.2, hk_.1.2⟩)); have n9_ := Aside0.mk (hb); clear HO_230001; clear HO_235001; clear HO_245001; clear BK213; clear BK214; clear BK229; clear BK234; clear BK244; clear HO249; clear HB; have HO_230001 := n0_; have HO_235001 := n1_; have HO_245001 := n2_; have BK213 := n3_; have BK214 := n4_; have BK229 := n5_; have BK234 := n6_; have BK244 := n7_; have HO249 := n8_; have HB := n9_; clear n0_ n1_ n2_ n3_ n4_ n5_ n6_ n7_ n8_ n9_; (try clear hb); (try clear hkp); (try clear hy0)))
            (try simp only [Act.put, List.setIfInBounds_toArray, List.set_cons_zero, List.set_cons_succ])
            go_cut [67] (fun v67 wc => ∃ (kq : Nat) (x67_76 : Bool), v67 = .bool x67_76 ∧ Aside0 (laws_FnExactAddClue.j1 kq t228 x67_76 a0_0 l0_1 a1_0 a1_1 a1_2 a1_3 t224 t225 t239 t240 = some r) ∧ Aside0 (kq ≤ kj15) ∧ Aside0 (Kd.R k39 39 wc w.heap.size (fun k_ => some k_ ≠ ((.slice Ao40 t231.length co40) : Value).ownBlock ∧ some k_ ≠ ((.slice Ao48 t240.length co48) : Value).ownBlock) (.slice Ao30 t225.length co30) t225) ∧ Aside0 (Kd.R k39 39 wc w.heap.size (fun k_ => some k_ ≠ ((.slice Ao30 t225.length co30) : Value).ownBlock ∧ some k_ ≠ ((.slice Ao48 t240.length co48) : Value).ownBlock) (.slice Ao40 t231.length co40) t252) ∧ Aside0 (Kd.R k39 39 wc w.heap.size (fun k_ => some k_ ≠ ((.slice Ao30 t225.length co30) : Value).ownBlock ∧ some k_ ≠ ((.slice Ao40 t231.length co40) : Value).ownBlock) (.slice Ao48 t240.length co48) t240) ∧ Aside0 (wc.heap[gb213]? = some (.cells #[.int .i64 a0_0, (.slice A0_1 l0_1.length c0_1)] 24 (0, 0))) ∧ Aside0 (wc.heap[gb214]? = some (.cells #[.int .i64 a1_0, .int .i64 a1_1, .int .i64 a1_2, .int .i64 a1_3] 34 (0, 0))) ∧ Aside0 (wc.heap[gb229]? = some (.cells #[.int .i64 t224, (.slice Ao30 t225.length co30)] 29 (0, 0))) ∧ Aside0 (wc.heap[gb234]? = some (.cells #[.int .i64 t230, (.slice Ao40 t231.length co40)] 29 (0, 0))) ∧ Aside0 (wc.heap[gb244]? = some (.cells #[.int .i64 t239, (.slice Ao48 t240.length co48)] 29 (0, 0))) ∧ Aside0 (Below w.heap.size w wc))
            case first =>
              have H := HC77.out
              clear HC77
              by_cases c88 : t251 < 0
              · rw [if_pos c88] at H
                have c88b0 : decide (t251 < 0) = true := decide_eq_true c88
                clear c88
                (first | rw [c88b0] | (simp only [i64_w, i32_w]; rw [c88b0]) | skip)
                have H' := Aside0.mk H
                clear H
                go_wp2
                go_meet
                case rel => exact ⟨_, (true), (by first | rfl | (simp; done) | (simp [*]; done)), H', ⟨by have := HJ15.out; first | omega | exact Nat.le_refl _⟩, ⟨by (with_reducible repeat (first | apply Kd.R_alloc | apply Kd.R_drewN | apply Kd.R_drew)); exact Kd.R_mono HO_230001.out (fun _ hk => ⟨hk.1, hk.2.1⟩)⟩, ⟨by (with_reducible repeat (first | apply Kd.R_alloc | apply Kd.R_drewN | apply Kd.R_drew)); exact Kd.R_mono HO_235001.out (fun _ hk => ⟨hk.1.1, hk.1.2⟩)⟩, ⟨by (with_reducible repeat (first | apply Kd.R_alloc | apply Kd.R_drewN | apply Kd.R_drew)); exact Kd.R_mono HO_245001.out (fun _ hk => ⟨hk.1, hk.2.1⟩)⟩, ⟨bk_ BK213.out⟩, ⟨bk_ BK214.out⟩, ⟨bk_ BK229.out⟩, ⟨bk_ BK234.out⟩, ⟨bk_ BK244.out⟩, ⟨hbg_⟩⟩
              · rw [if_neg c88] at H
                have c88b0 : decide (t251 < 0) = false := decide_eq_false c88
                clear c88
                (first | rw [c88b0] | (simp only [i64_w, i32_w]; rw [c88b0]) | skip)
                replace H := Option.bind_eq_some_iff.mp H
                obtain ⟨t253, A890, H⟩ := H
                replace H : (if t253 = true then (laws_FnExactAddClue.j1 kj15 t228 (t243 != t228) a0_0 l0_1 a1_0 a1_1 a1_2 a1_3 t224 t225 t239 t240) else (laws_FnExactAddClue.j1 kj15 t228 true a0_0 l0_1 a1_0 a1_1 a1_2 a1_3 t224 t225 t239 t240)) = some r := H
                have A89 := Aside0.mk A890
                clear A890
                by_cases c90 : t253 = true
                · subst c90
                  have H1 : (laws_FnExactAddClue.j1 kj15 t228 (t243 != t228) a0_0 l0_1 a1_0 a1_1 a1_2 a1_3 t224 t225 t239 t240) = some r := by rw [if_pos rfl] at H; exact H
                  clear H
                  have H := H1
                  clear H1
                  have H' := Aside0.mk H
                  clear H
                  have hnb91 := NB244_213.out
                  have hnc91 := NB213_244.out
                  have hnb92 := NB244_214.out
                  have hnc92 := NB214_244.out
                  have hnb93 := NB244_229.out
                  have hnc93 := NB229_244.out
                  have hnb94 := NB244_234.out
                  have hnc94 := NB234_244.out
                  have hcz95_0 : w87.cell? ⟨gb244, 0, none⟩ = some (.int .i64 t239) := (blk_cell BK244.out 0).trans rfl
                  have hcz95_1 : w87.cell? ⟨gb244, 1, none⟩ = some (.slice Ao48 t240.length co48) := (blk_cell BK244.out 1).trans rfl
                  have hfz95_0 := blk_frozen BK244.out 0
                  have hfz95_1 := blk_frozen BK244.out 1
                  have hnb96 := NB229_213.out
                  have hnc96 := NB213_229.out
                  have hnb97 := NB229_214.out
                  have hnc97 := NB214_229.out
                  have hnb98 := NB229_234.out
                  have hnc98 := NB234_229.out
                  have hcz99_0 : w87.cell? ⟨gb229, 0, none⟩ = some (.int .i64 t224) := (blk_cell BK229.out 0).trans rfl
                  have hcz99_1 : w87.cell? ⟨gb229, 1, none⟩ = some (.slice Ao30 t225.length co30) := (blk_cell BK229.out 1).trans rfl
                  have hfz99_0 := blk_frozen BK229.out 0
                  have hfz99_1 := blk_frozen BK229.out 1
                  go_wp2_with (first | (go_at_call 19; (with_reducible refine (laws_eqPuzzle.calls kj15 t239 _ _ t240 t224 _ _ t225 true _ ?side1 ?side2 ?side3 ?side4 A89.out).mono ?_); (case side1 => repeat (first | exact (Kd.R_reads' HO_245001.out).2.2 | (with_reducible refine Kd.C_alloc ?_ _) | (with_reducible refine Kd.C_drewN ?_ _) | (with_reducible refine Kd.C_drew ?_))); (case side2 => exact (Kd.R_reads' HO_245001.out).2.1); (case side3 => repeat (first | exact (Kd.R_reads' HO_230001.out).2.2 | (with_reducible refine Kd.C_alloc ?_ _) | (with_reducible refine Kd.C_drewN ?_ _) | (with_reducible refine Kd.C_drew ?_))); (case side4 => exact (Kd.R_reads' HO_230001.out).2.1); rintro e w100 ⟨rfl, hb⟩; have n0_ := Aside0.mk (Kd.R_below (rk_ HO_230001.out) hb); have n1_ := Aside0.mk (Kd.R_below (rk_ HO_235001.out) hb); have n2_ := Aside0.mk (Kd.R_below (rk_ HO_245001.out) hb); have n3_ := Aside0.mk (Kd.R_below (rk_ HO249.out) hb); have n4_ := bb_ BK213 hb; have n5_ := bb_ BK214 hb; have n6_ := bb_ BK229 hb; have n7_ := bb_ BK234 hb; have n8_ := bb_ BK244 hb; have n9_ := Aside0.mk (below_step (hbg_) hb); clear HO_230001; clear HO_235001; clear HO_245001; clear HO249; clear BK213; clear BK214; clear BK229; clear BK234; clear BK244; clear HB; have HO_230001 := n0_; have HO_235001 := n1_; have HO_245001 := n2_; have HO249 := n3_; have BK213 := n4_; have BK214 := n5_; have BK229 := n6_; have BK234 := n7_; have BK244 := n8_; have HB := n9_; clear n0_ n1_ n2_ n3_ n4_ n5_ n6_ n7_ n8_ n9_; (try clear hb); (try clear hb2); (try clear hk); (try clear hi)))
                  go_meet
                  case rel => exact ⟨_, ((t243 != t228)), (by first | rfl | (simp; done) | (simp [*]; done)), H', ⟨by have := HJ15.out; first | omega | exact Nat.le_refl _⟩, ⟨by (with_reducible repeat (first | apply Kd.R_alloc | apply Kd.R_drewN | apply Kd.R_drew)); exact Kd.R_mono HO_230001.out (fun _ hk => ⟨hk.1, hk.2.1⟩)⟩, ⟨by (with_reducible repeat (first | apply Kd.R_alloc | apply Kd.R_drewN | apply Kd.R_drew)); exact Kd.R_mono HO_235001.out (fun _ hk => ⟨hk.1.1, hk.1.2⟩)⟩, ⟨by (with_reducible repeat (first | apply Kd.R_alloc | apply Kd.R_drewN | apply Kd.R_drew)); exact Kd.R_mono HO_245001.out (fun _ hk => ⟨hk.1, hk.2.1⟩)⟩, ⟨bk_ BK213.out⟩, ⟨bk_ BK214.out⟩, ⟨bk_ BK229.out⟩, ⟨bk_ BK234.out⟩, ⟨bk_ BK244.out⟩, ⟨hbg_⟩⟩
                · replace c90 := Bool.eq_false_iff.mpr c90
                  subst c90
                  have H1 : (laws_FnExactAddClue.j1 kj15 t228 true a0_0 l0_1 a1_0 a1_1 a1_2 a1_3 t224 t225 t239 t240) = some r := by rw [if_neg (show ¬ (false = true) by decide)] at H; exact H
                  clear H
                  have H := H1
                  clear H1
                  have H' := Aside0.mk H
                  clear H
                  have hnb101 := NB244_213.out
                  have hnc101 := NB213_244.out
                  have hnb102 := NB244_214.out
                  have hnc102 := NB214_244.out
                  have hnb103 := NB244_229.out
                  have hnc103 := NB229_244.out
                  have hnb104 := NB244_234.out
                  have hnc104 := NB234_244.out
                  have hcz105_0 : w87.cell? ⟨gb244, 0, none⟩ = some (.int .i64 t239) := (blk_cell BK244.out 0).trans rfl
                  have hcz105_1 : w87.cell? ⟨gb244, 1, none⟩ = some (.slice Ao48 t240.length co48) := (blk_cell BK244.out 1).trans rfl
                  have hfz105_0 := blk_frozen BK244.out 0
                  have hfz105_1 := blk_frozen BK244.out 1
                  have hnb106 := NB229_213.out
                  have hnc106 := NB213_229.out
                  have hnb107 := NB229_214.out
                  have hnc107 := NB214_229.out
                  have hnb108 := NB229_234.out
                  have hnc108 := NB234_229.out
                  have hcz109_0 : w87.cell? ⟨gb229, 0, none⟩ = some (.int .i64 t224) := (blk_cell BK229.out 0).trans rfl
                  have hcz109_1 : w87.cell? ⟨gb229, 1, none⟩ = some (.slice Ao30 t225.length co30) := (blk_cell BK229.out 1).trans rfl
                  have hfz109_0 := blk_frozen BK229.out 0
                  have hfz109_1 := blk_frozen BK229.out 1
                  go_wp2_with (first | (go_at_call 19; (with_reducible refine (laws_eqPuzzle.calls kj15 t239 _ _ t240 t224 _ _ t225 false _ ?side1 ?side2 ?side3 ?side4 A89.out).mono ?_); (case side1 => repeat (first | exact (Kd.R_reads' HO_245001.out).2.2 | (with_reducible refine Kd.C_alloc ?_ _) | (with_reducible refine Kd.C_drewN ?_ _) | (with_reducible refine Kd.C_drew ?_))); (case side2 => exact (Kd.R_reads' HO_245001.out).2.1); (case side3 => repeat (first | exact (Kd.R_reads' HO_230001.out).2.2 | (with_reducible refine Kd.C_alloc ?_ _) | (with_reducible refine Kd.C_drewN ?_ _) | (with_reducible refine Kd.C_drew ?_))); (case side4 => exact (Kd.R_reads' HO_230001.out).2.1); rintro e w110 ⟨rfl, hb⟩; have n0_ := Aside0.mk (Kd.R_below (rk_ HO_230001.out) hb); have n1_ := Aside0.mk (Kd.R_below (rk_ HO_235001.out) hb); have n2_ := Aside0.mk (Kd.R_below (rk_ HO_245001.out) hb); have n3_ := Aside0.mk (Kd.R_below (rk_ HO249.out) hb); have n4_ := bb_ BK213 hb; have n5_ := bb_ BK214 hb; have n6_ := bb_ BK229 hb; have n7_ := bb_ BK234 hb; have n8_ := bb_ BK244 hb; have n9_ := Aside0.mk (below_step (hbg_) hb); clear HO_230001; clear HO_235001; clear HO_245001; clear HO249; clear BK213; clear BK214; clear BK229; clear BK234; clear BK244; clear HB; have HO_230001 := n0_; have HO_235001 := n1_; have HO_245001 := n2_; have HO249 := n3_; have BK213 := n4_; have BK214 := n5_; have BK229 := n6_; have BK234 := n7_; have BK244 := n8_; have HB := n9_; clear n0_ n1_ n2_ n3_ n4_ n5_ n6_ n7_ n8_ n9_; (try clear hb); (try clear hb2); (try clear hk); (try clear hi)))
                  go_meet
                  case rel => exact ⟨_, (true), (by first | rfl | (simp; done) | (simp [*]; done)), H', ⟨by have := HJ15.out; first | omega | exact Nat.le_refl _⟩, ⟨by (with_reducible repeat (first | apply Kd.R_alloc | apply Kd.R_drewN | apply Kd.R_drew)); exact Kd.R_mono HO_230001.out (fun _ hk => ⟨hk.1, hk.2.1⟩)⟩, ⟨by (with_reducible repeat (first | apply Kd.R_alloc | apply Kd.R_drewN | apply Kd.R_drew)); exact Kd.R_mono HO_235001.out (fun _ hk => ⟨hk.1.1, hk.1.2⟩)⟩, ⟨by (with_reducible repeat (first | apply Kd.R_alloc | apply Kd.R_drewN | apply Kd.R_drew)); exact Kd.R_mono HO_245001.out (fun _ hk => ⟨hk.1, hk.2.1⟩)⟩, ⟨bk_ BK213.out⟩, ⟨bk_ BK214.out⟩, ⟨bk_ BK229.out⟩, ⟨bk_ BK234.out⟩, ⟨bk_ BK244.out⟩, ⟨hbg_⟩⟩
            case rest =>
              clear HC77
              try clear c1
              try clear c2
              try clear p2
              try clear c5
              try clear c6
              try clear c7
              try clear c8
              try clear c9
              try clear c10
              try clear c17
              try clear c19
              try clear c21
              try clear c25
              try clear c26
              try clear c51
              try clear c52
              try clear c53
              try clear c54
              try clear c55
              try clear c57
              try clear c58
              try clear c59
              try clear c62
              try clear c63
              try clear c64
              try clear c65
              try clear c67
              try clear c68
              try clear c69
              try clear c72
              try clear c75
              try clear c82
              try clear c83
              try clear c84
              try clear c85
              try clear c88
              try clear c88b0
              try clear c90
              try clear c91
              try clear c92
              try clear c93
              try clear c94
              try clear c96
              try clear c97
              try clear c98
              try clear c101
              try clear c102
              try clear c103
              try clear c104
              try clear c106
              try clear c107
              try clear c108
              try clear hcz105_0
              try clear hcz105_1
              try clear hcz109_0
              try clear hcz109_1
              try clear hcz56_0
              try clear hcz56_1
              try clear hcz60_0
              try clear hcz60_1
              try clear hcz66_0
              try clear hcz66_1
              try clear hcz70_0
              try clear hcz70_1
              try clear hcz86_0
              try clear hcz86_1
              try clear hcz95_0
              try clear hcz95_1
              try clear hcz99_0
              try clear hcz99_1
              try clear hfz105_0
              try clear hfz105_1
              try clear hfz109_0
              try clear hfz109_1
              try clear hfz56_0
              try clear hfz56_1
              try clear hfz60_0
              try clear hfz60_1
              try clear hfz66_0
              try clear hfz66_1
              try clear hfz70_0
              try clear hfz70_1
              try clear hfz86_0
              try clear hfz86_1
              try clear hfz95_0
              try clear hfz95_1
              try clear hfz99_0
              try clear hfz99_1
              try clear p2
              obtain ⟨kq, x67_76, rfl, HA, HJ76, HO_230001, HO_235001, HO_245001, BK213, BK214, BK229, BK234, BK244, HB⟩ := hcut
              have hl235001_76 := (Kd.R_reads' HO_235001.out).1
              rw [hl235001_76] at HO_235001
              (try simp only [hl235001_76])
              (try simp only [hl235001_76] at BK213)
              (try simp only [hl235001_76] at BK214)
              (try simp only [hl235001_76] at BK229)
              (try simp only [hl235001_76] at BK234)
              (try simp only [hl235001_76] at BK244)
              (try simp only [hl235001_76] at HO_230001)
              (try simp only [hl235001_76] at HO_245001)
              cases kq with
              | zero => exact absurd HA.out (by simp [laws_FnExactAddClue.j1])
              | succ kj76 =>
                have H := HA.out
                clear HA
                simp only [laws_FnExactAddClue.j1] at H
                by_cases c111 : x67_76 = true
                · subst c111
                  have H1 : (some false) = some r := by rw [if_pos rfl] at H; exact H
                  clear H
                  have H := H1
                  clear H1
                  exact absurd (Option.some.inj H) (by rw [hr_]; decide)
                · replace c111 := Bool.eq_false_iff.mpr c111
                  subst c111
                  have H1 : ((laws_markPuzzle.f kj76 t239 t240 1).bind fun bt254 => ((laws_heldPuzzle.f kj76 t239 bt254.2 1).bind fun t256 => (if t256 < 0 then (some false) else (if t256 = bt254.1 then ((laws_toPuzzle.f kj76 a0_0 l0_1).bind fun bt257 => ((laws_toClue.f a1_0 a1_1 a1_2 a1_3).bind fun bt261 => ((impl_AddClue.f kj76 bt257.1 bt257.2 bt261.1 bt261.2.1 bt261.2.2.1 bt261.2.2.2).bind fun bt265 => ((laws_eqPuzzle.f kj76 bt265.1 bt265.2.1 t224 t225).bind fun t271 => (if t271 = true then (laws_FnExactAddClue.j2 kj76 bt254.1 (bt265.2.2 != t228) t239 bt254.2) else (laws_FnExactAddClue.j2 kj76 bt254.1 true t239 bt254.2)))))) else (some false))))) = some r := by rw [if_neg (show ¬ (false = true) by decide)] at H; exact H
                  clear H
                  have H := H1
                  clear H1
                  replace H := Option.bind_eq_some_iff.mp H
                  obtain ⟨⟨t254, t255⟩, A1120, H⟩ := H
                  replace H : ((laws_heldPuzzle.f kj76 t239 t255 1).bind fun t256 => (if t256 < 0 then (some false) else (if t256 = t254 then ((laws_toPuzzle.f kj76 a0_0 l0_1).bind fun bt257 => ((laws_toClue.f a1_0 a1_1 a1_2 a1_3).bind fun bt261 => ((impl_AddClue.f kj76 bt257.1 bt257.2 bt261.1 bt261.2.1 bt261.2.2.1 bt261.2.2.2).bind fun bt265 => ((laws_eqPuzzle.f kj76 bt265.1 bt265.2.1 t224 t225).bind fun t271 => (if t271 = true then (laws_FnExactAddClue.j2 kj76 t254 (bt265.2.2 != t228) t239 t255) else (laws_FnExactAddClue.j2 kj76 t254 true t239 t255)))))) else (some false)))) = some r := H
                  have A112 := Aside0.mk A1120
                  clear A1120
                  replace H := Option.bind_eq_some_iff.mp H
                  obtain ⟨t256, A1130, H⟩ := H
                  replace H : (if t256 < 0 then (some false) else (if t256 = t254 then ((laws_toPuzzle.f kj76 a0_0 l0_1).bind fun bt257 => ((laws_toClue.f a1_0 a1_1 a1_2 a1_3).bind fun bt261 => ((impl_AddClue.f kj76 bt257.1 bt257.2 bt261.1 bt261.2.1 bt261.2.2.1 bt261.2.2.2).bind fun bt265 => ((laws_eqPuzzle.f kj76 bt265.1 bt265.2.1 t224 t225).bind fun t271 => (if t271 = true then (laws_FnExactAddClue.j2 kj76 t254 (bt265.2.2 != t228) t239 t255) else (laws_FnExactAddClue.j2 kj76 t254 true t239 t255)))))) else (some false))) = some r := H
                  have A113 := Aside0.mk A1130
                  clear A1130
                  by_cases c114 : t256 < 0
                  · rw [if_pos c114] at H
                    have c114b0 : decide (t256 < 0) = true := decide_eq_true c114
                    clear c114
                    exact absurd (Option.some.inj H) (by rw [hr_]; decide)
                  · rw [if_neg c114] at H
                    have c114b0 : decide (t256 < 0) = false := decide_eq_false c114
                    clear c114
                    by_cases c115 : t256 = t254
                    · rw [if_pos c115] at H
                      have c115b0 : (t256 == t254) = true := beq_iff_eq.mpr c115
                      have c115b1 : (t256 != t254) = false := bne_eq_false_iff_eq.mpr c115
                      clear c115
                      replace H := Option.bind_eq_some_iff.mp H
                      obtain ⟨⟨t257, t258⟩, A1160, H⟩ := H
                      replace H : ((laws_toClue.f a1_0 a1_1 a1_2 a1_3).bind fun bt261 => ((impl_AddClue.f kj76 t257 t258 bt261.1 bt261.2.1 bt261.2.2.1 bt261.2.2.2).bind fun bt265 => ((laws_eqPuzzle.f kj76 bt265.1 bt265.2.1 t224 t225).bind fun t271 => (if t271 = true then (laws_FnExactAddClue.j2 kj76 t254 (bt265.2.2 != t228) t239 t255) else (laws_FnExactAddClue.j2 kj76 t254 true t239 t255))))) = some r := H
                      have A116 := Aside0.mk A1160
                      clear A1160
                      replace H := Option.bind_eq_some_iff.mp H
                      obtain ⟨⟨t261, t262, t263, t264⟩, A1170, H⟩ := H
                      replace H : ((impl_AddClue.f kj76 t257 t258 t261 t262 t263 t264).bind fun bt265 => ((laws_eqPuzzle.f kj76 bt265.1 bt265.2.1 t224 t225).bind fun t271 => (if t271 = true then (laws_FnExactAddClue.j2 kj76 t254 (bt265.2.2 != t228) t239 t255) else (laws_FnExactAddClue.j2 kj76 t254 true t239 t255)))) = some r := H
                      have A117 := Aside0.mk A1170
                      clear A1170
                      replace H := Option.bind_eq_some_iff.mp H
                      obtain ⟨⟨t265, t266, t269⟩, A1180, H⟩ := H
                      replace H : ((laws_eqPuzzle.f kj76 t265 t266 t224 t225).bind fun t271 => (if t271 = true then (laws_FnExactAddClue.j2 kj76 t254 (t269 != t228) t239 t255) else (laws_FnExactAddClue.j2 kj76 t254 true t239 t255))) = some r := H
                      have A118 := Aside0.mk A1180
                      clear A1180
                      have HC119 := Aside0.mk H
                      clear H
                      have hnb120 := NB244_213.out
                      have hnc120 := NB213_244.out
                      have hnb121 := NB244_214.out
                      have hnc121 := NB214_244.out
                      have hnb122 := NB244_229.out
                      have hnc122 := NB229_244.out
                      have hnb123 := NB244_234.out
                      have hnc123 := NB234_244.out
                      have hcz124_0 : wc.cell? ⟨gb244, 0, none⟩ = some (.int .i64 t239) := (blk_cell BK244.out 0).trans rfl
                      have hcz124_1 : wc.cell? ⟨gb244, 1, none⟩ = some (.slice Ao48 t240.length co48) := (blk_cell BK244.out 1).trans rfl
                      have hfz124_0 := blk_frozen BK244.out 0
                      have hfz124_1 := blk_frozen BK244.out 1
                      try go_wp2_with (first | ((with_reducible refine gate_callee (f := 26) rfl ?_); refine goesL_ (some 70) rfl rfl Try.func26 (by kernel_rfl) rfl #[.agg #[.int .i64 t239, .slice Ao48 t240.length co48], .int .i64 1] rfl (by (try simp only [List.map_toArray, List.map_cons, List.map_nil]); first | done | rfl | (simp only [List.length_drop, List.length_take]; rfl)) ?_; (with_reducible refine (laws_markPuzzle.calls kj76 t239 (fun k_ => some k_ = (.slice Ao48 t240.length co48 : Value).ownBlock) (.slice Ao48 t240.length co48) t240 1 t254 t255 w _ ?side1 ?side2 A112.out).mono ?_); (case side1 => repeat (first | (with_reducible first | exact HB.out | apply below_alloc | apply pw_below_drewN | apply below_drew1 | refine below_set ?_ GE213.out | refine below_set ?_ GE214.out | refine below_set ?_ GE229.out | refine below_set ?_ GE234.out | refine below_set ?_ GE244.out) | exact HB.out)); (case side2 => exact Kd.R_tight rfl HO_245001.out); rintro e w125 ⟨rfl, hy0, hb, hkp⟩; refine ⟨_, rfl, ?_⟩; have n0_ := Aside0.mk (Kd.R_mono (ok' := fun k_ => some k_ ≠ (.slice Ao40 t252.length co40 : Value).ownBlock ∧ some k_ ≠ (.slice Ao48 t240.length co48 : Value).ownBlock) (Kd.R_keptB (HO_230001.out) hkp (fun k_ hk_ hs_ => (hk_.2) hs_)) (fun k_ hk_ => ⟨hk_.1.1, hk_.1.2⟩)); have n1_ := Aside0.mk (Kd.R_mono (ok' := fun k_ => some k_ ≠ (.slice Ao30 t225.length co30 : Value).ownBlock ∧ some k_ ≠ (.slice Ao48 t240.length co48 : Value).ownBlock) (Kd.R_keptB (HO_235001.out) hkp (fun k_ hk_ hs_ => (hk_.2) hs_)) (fun k_ hk_ => ⟨hk_.1.1, hk_.1.2⟩)); have n2_ := Aside0.mk (Kd.R_reok rfl hy0 (fun k_ e_ => HO_245001.out.1 k_ e_)); have n3_ := Aside0.mk (blk_kept (bk_ BK213.out) hkp (fun hs_ => (fun e_ => (Kd.R_ne HO_245001.out BK213.out (by decide)) e_) hs_)); have n4_ := Aside0.mk (blk_kept (bk_ BK214.out) hkp (fun hs_ => (fun e_ => (Kd.R_ne HO_245001.out BK214.out (by decide)) e_) hs_)); have n5_ := Aside0.mk (blk_kept (bk_ BK229.out) hkp (fun hs_ => (fun e_ => (Kd.R_ne HO_245001.out BK229.out (by decide)) e_) hs_)); have n6_ := Aside0.mk (blk_kept (bk_ BK234.out) hkp (fun hs_ => (fun e_ => (Kd.R_ne HO_245001.out BK234.out (by decide)) e_) hs_)); have n7_ := Aside0.mk (blk_kept (bk_ BK244.out) hkp (fun hs_ => (fun e_ => (Kd.R_ne HO_245001.out BK244.out (by decide)) e_) hs_)); have n8_ := Aside0.mk (hb); clear HO_230001; clear HO_235001; clear HO_245001; clear BK213; clear BK214; clear BK229; clear BK234; clear BK244; clear HB; have HO_230001 := n0_; have HO_235001 := n1_; have HO_245001 := n2_; have BK213 := n3_; have BK214 := n4_; have BK229 := n5_; have BK234 := n6_; have BK244 := n7_; have HB := n8_; clear n0_ n1_ n2_ n3_ n4_ n5_ n6_ n7_ n8_; (try clear hb); (try clear hkp); (try clear hy0); have hcz126_0 : w125.cell? ⟨gb244, 0, none⟩ = some (.int .i64 t239) := (blk_cell BK244.out 0).trans rfl; have hcz126_1 : w125.cell? ⟨gb244, 1, none⟩ = some (.slice Ao48 t240.length co48) := (blk_cell BK244.out 1).trans rfl; have hfz126_0 := blk_frozen BK244.out 0; have hfz126_1 := blk_frozen BK244.out 1) | ((with_reducible refine gate_callee (f := 27) rfl ?_); refine goesL_ (some 73) rfl rfl Try.func27 (by kernel_rfl) rfl #[.agg #[.int .i64 t239, .slice Ao48 t255.length co48], .int .i64 1] rfl (by (try simp only [List.map_toArray, List.map_cons, List.map_nil]); first | done | (rw [show t255.length = t240.length from (Kd.R_reads' HO_245001.out).1.symm] <;> rfl) | rfl | (simp only [List.length_drop, List.length_take]; rfl)) ?_; (with_reducible refine (laws_heldPuzzle.calls kj76 t239 _ _ t255 1 t256 _ ?side1 ?side2 A113.out).mono ?_); (case side1 => repeat (first | exact (Kd.R_reads' HO_245001.out).2.2 | (with_reducible refine Kd.C_alloc ?_ _) | (with_reducible refine Kd.C_drewN ?_ _) | (with_reducible refine Kd.C_drew ?_))); (case side2 => rw [show t255.length = t240.length from (Kd.R_reads' HO_245001.out).1.symm]; exact (Kd.R_reads' HO_245001.out).2.1); rintro e w127 ⟨rfl, hb⟩; refine ⟨_, rfl, ?_⟩; have n0_ := Aside0.mk (Kd.R_below (rk_ HO_230001.out) hb); have n1_ := Aside0.mk (Kd.R_below (rk_ HO_235001.out) hb); have n2_ := Aside0.mk (Kd.R_below (rk_ HO_245001.out) hb); have n3_ := bb_ BK213 hb; have n4_ := bb_ BK214 hb; have n5_ := bb_ BK229 hb; have n6_ := bb_ BK234 hb; have n7_ := bb_ BK244 hb; have n8_ := Aside0.mk (below_step (hbg_) hb); clear HO_230001; clear HO_235001; clear HO_245001; clear BK213; clear BK214; clear BK229; clear BK234; clear BK244; clear HB; have HO_230001 := n0_; have HO_235001 := n1_; have HO_245001 := n2_; have BK213 := n3_; have BK214 := n4_; have BK229 := n5_; have BK234 := n6_; have BK244 := n7_; have HB := n8_; clear n0_ n1_ n2_ n3_ n4_ n5_ n6_ n7_ n8_; (try clear hb); (try clear hb2); (try clear hk); (try clear hi)))
                      have n0_ := Aside0.mk (Kd.R_drew HO_230001.out)
                      have n1_ := Aside0.mk (Kd.R_drew HO_235001.out)
                      have n2_ := Aside0.mk (Kd.R_drew HO_245001.out)
                      have n3_ := Aside0.mk (blk_drew BK213.out)
                      have n4_ := Aside0.mk (blk_drew BK214.out)
                      have n5_ := Aside0.mk (blk_drew BK229.out)
                      have n6_ := Aside0.mk (blk_drew BK234.out)
                      have n7_ := Aside0.mk (blk_drew BK244.out)
                      have n8_ := Aside0.mk (below_drew1 HB.out)
                      clear HO_230001
                      clear HO_235001
                      clear HO_245001
                      clear BK213
                      clear BK214
                      clear BK229
                      clear BK234
                      clear BK244
                      clear HB
                      have HO_230001 := n0_
                      have HO_235001 := n1_
                      have HO_245001 := n2_
                      have BK213 := n3_
                      have BK214 := n4_
                      have BK229 := n5_
                      have BK234 := n6_
                      have BK244 := n7_
                      have HB := n8_
                      clear n0_ n1_ n2_ n3_ n4_ n5_ n6_ n7_ n8_
                      refine start_ (n := 11) (S := fun w' => w'.cell? ⟨gb213, 0, none⟩ = some (.int .i64 a0_0) ∧ w'.cell? ⟨gb213, 1, none⟩ = some (.slice A0_1 l0_1.length c0_1) ∧ w'.cell? ⟨gb214, 0, none⟩ = some (.int .i64 a1_0) ∧ w'.cell? ⟨gb214, 1, none⟩ = some (.int .i64 a1_1) ∧ w'.cell? ⟨gb214, 2, none⟩ = some (.int .i64 a1_2) ∧ w'.cell? ⟨gb214, 3, none⟩ = some (.int .i64 a1_3)) (ds := []) #[false, false, false, false, false, false, false, false, false, false, false] (by kernel_rfl) rfl rfl ⟨(blk_cell BK213.out 0).trans rfl, (blk_cell BK213.out 1).trans rfl, (blk_cell BK214.out 0).trans rfl, (blk_cell BK214.out 1).trans rfl, (blk_cell BK214.out 2).trans rfl, (blk_cell BK214.out 3).trans rfl⟩ (fun hHeld => ?_); refine with_tabW laws_FnExactAddClue.tab24 laws_FnExactAddClue.bits24 (fun HT_ HW_ => ?_)
                      generalize w127.drew = w128 at HO_230001 HO_235001 HO_245001 BK213 BK214 BK229 BK234 BK244 HB hHeld ⊢
                      refine take_ (i := 0) (N := some 80) (v := ?_) (a' := ?_) #[true, false, false, false, false, false, false, false, false, false, false] rfl rfl (take_ofW HT_.out HW_.out (by kernel_rfl)) (fun _ _ _ h => h) (Or.inl ⟨by rfl, ?_⟩) hHeld ?_ ?_
                      rotate_left
                      · rintro w' ⟨s0, s1, s2, s3, s4, s5⟩
                        go_simp
                        with_reducible rfl
                      rotate_left
                      · simp only [Act.put, sA, sB, sC, i64_w, i32_w]
                        rfl
                      refine take_ (i := 2) (N := some 82) (v := ?_) (a' := ?_) #[true, false, true, false, false, false, false, false, false, false, false] rfl rfl (take_ofW HT_.out HW_.out (by kernel_rfl)) (fun _ _ _ h => h) (Or.inl ⟨by rfl, ?_⟩) hHeld ?_ ?_
                      rotate_left
                      · rintro w' ⟨s0, s1, s2, s3, s4, s5⟩
                        go_simp
                        with_reducible rfl
                      rotate_left
                      · simp only [Act.put, sA, sB, sC, i64_w, i32_w]
                        rfl
                      refine join_ (σ := Value × Value × Nat) 2 #[true, true, true, true, true, true, true, true, true, false, false] (fun s_ => [(81, .agg #[.int .i64 t257, s_.1]), (83, .agg #[.int .i64 t261, .int .i64 t262, .int .i64 t263, .int .i64 t264]), (84, .tuple #[.agg #[.int .i64 t265, s_.2.1], .bool t269]), (14, .pointer (some ⟨s_.2.2, 0, none⟩)), (79, .tuple #[.agg #[.int .i64 t265, s_.2.1], .bool t269]), (85, .agg #[.int .i64 t265, s_.2.1]), (86, .bool t269)]) (fun s_ w' => (w'.cell? ⟨gb213, 0, none⟩ = some (.int .i64 a0_0) ∧ w'.cell? ⟨gb213, 1, none⟩ = some (.slice A0_1 l0_1.length c0_1) ∧ w'.cell? ⟨gb214, 0, none⟩ = some (.int .i64 a1_0) ∧ w'.cell? ⟨gb214, 1, none⟩ = some (.int .i64 a1_1) ∧ w'.cell? ⟨gb214, 2, none⟩ = some (.int .i64 a1_2) ∧ w'.cell? ⟨gb214, 3, none⟩ = some (.int .i64 a1_3)) ∧ (Kd.R k39 39 w' w.heap.size (fun k_ => some k_ ≠ (s_.2.1 : Value).ownBlock ∧ some k_ ≠ (.slice Ao30 t225.length co30 : Value).ownBlock ∧ some k_ ≠ (.slice Ao40 t252.length co40 : Value).ownBlock ∧ some k_ ≠ (.slice Ao48 t240.length co48 : Value).ownBlock) s_.1 t258) ∧ (Kd.R k39 39 w' w.heap.size (fun k_ => some k_ ≠ (s_.1 : Value).ownBlock ∧ some k_ ≠ (.slice Ao30 t225.length co30 : Value).ownBlock ∧ some k_ ≠ (.slice Ao40 t252.length co40 : Value).ownBlock ∧ some k_ ≠ (.slice Ao48 t240.length co48 : Value).ownBlock) s_.2.1 t266) ∧ (Kd.R k39 39 w' w.heap.size (fun k_ => some k_ ≠ (s_.1 : Value).ownBlock ∧ some k_ ≠ (s_.2.1 : Value).ownBlock ∧ some k_ ≠ (.slice Ao40 t252.length co40 : Value).ownBlock ∧ some k_ ≠ (.slice Ao48 t240.length co48 : Value).ownBlock) (.slice Ao30 t225.length co30) t225) ∧ (Kd.R k39 39 w' w.heap.size (fun k_ => some k_ ≠ (s_.1 : Value).ownBlock ∧ some k_ ≠ (s_.2.1 : Value).ownBlock ∧ some k_ ≠ (.slice Ao30 t225.length co30 : Value).ownBlock ∧ some k_ ≠ (.slice Ao48 t240.length co48 : Value).ownBlock) (.slice Ao40 t252.length co40) t252) ∧ (Kd.R k39 39 w' w.heap.size (fun k_ => some k_ ≠ (s_.1 : Value).ownBlock ∧ some k_ ≠ (s_.2.1 : Value).ownBlock ∧ some k_ ≠ (.slice Ao30 t225.length co30 : Value).ownBlock ∧ some k_ ≠ (.slice Ao40 t252.length co40 : Value).ownBlock) (.slice Ao48 t240.length co48) t255) ∧ (w'.heap[gb213]? = some (.cells #[.int .i64 a0_0, .slice A0_1 l0_1.length c0_1] 24 (0, 0))) ∧ (w'.heap[gb214]? = some (.cells #[.int .i64 a1_0, .int .i64 a1_1, .int .i64 a1_2, .int .i64 a1_3] 34 (0, 0))) ∧ (w'.heap[gb229]? = some (.cells #[.int .i64 t224, .slice Ao30 t225.length co30] 29 (0, 0))) ∧ (w'.heap[gb234]? = some (.cells #[.int .i64 t230, .slice Ao40 t252.length co40] 29 (0, 0))) ∧ (w'.heap[gb244]? = some (.cells #[.int .i64 t239, .slice Ao48 t240.length co48] 29 (0, 0))) ∧ (w'.heap[s_.2.2]? = some (.cells #[.int .i64 0, .slice none 0 0] 29 (0, 0))) ∧ (w.heap.size ≤ s_.2.2) ∧ (w.heap.size ≤ s_.2.2) ∧ (gb213 ≠ s_.2.2) ∧ (s_.2.2 ≠ gb213) ∧ (gb214 ≠ s_.2.2) ∧ (s_.2.2 ≠ gb214) ∧ (gb229 ≠ s_.2.2) ∧ (s_.2.2 ≠ gb229) ∧ (gb234 ≠ s_.2.2) ∧ (s_.2.2 ≠ gb234) ∧ (gb244 ≠ s_.2.2) ∧ (s_.2.2 ≠ gb244) ∧ (Below w.heap.size w w')) ?_ ?_
                      rotate_left
                      · intro hCont
                        refine two_ (i := 1) (j := 8) (Ni := some 81) (Nj := some 14) #[true, true, true, false, false, false, false, false, false, false, false] #[true, false, true, false, false, false, false, false, true, false, false] rfl rfl rfl rfl (two_of HT_.out (by kernel_rfl)) (by decide) (by decide) (fun K hK => ?_) (fun K hK => ?_)
                        · skip
                          refine goes_ Try.func17 (by kernel_rfl) rfl #[.agg #[.int .i64 a0_0, .slice A0_1 l0_1.length c0_1]] (by rfl) rfl rfl (by (try simp only [List.map_toArray, List.map_cons, List.map_nil]); first | done | rfl | (simp only [List.length_drop, List.length_take]; rfl)) ?_
                          with_reducible refine (laws_toPuzzle.calls kj76 a0_0 _ _ l0_1 t257 t258 _ ?side1 ?side2 A116.out).mono ?_
                          (case side1 => repeat (first | exact (Kd.C_below HR0_1.out HB.out) | (with_reducible refine Kd.C_alloc ?_ _) | (with_reducible refine Kd.C_drewN ?_ _) | (with_reducible refine Kd.C_drew ?_)))
                          (case side2 => exact HC0_1.out)
                          rintro e w129 ⟨v259, rfl, ho0, hb⟩
                          refine ⟨_, rfl, ?_⟩
                          have n0_ := Aside0.mk (Kd.R_elder' (rk_ HO_230001.out) (Kd.R_base ho0) hb)
                          have n1_ := Aside0.mk (Kd.R_elder' (rk_ HO_235001.out) (Kd.R_base ho0) hb)
                          have n2_ := Aside0.mk (Kd.R_elder' (rk_ HO_245001.out) (Kd.R_base ho0) hb)
                          have n3_ := Aside0.mk (Kd.R_lower (Kd.R_new' (Kd.R_new' (Kd.R_new' ho0 (Kd.R_lt (rk_ HO_230001.out))) (Kd.R_lt (rk_ HO_235001.out))) (Kd.R_lt (rk_ HO_245001.out))) (below_size (hbg_)))
                          have n4_ := bb_ BK213 hb
                          have n5_ := bb_ BK214 hb
                          have n6_ := bb_ BK229 hb
                          have n7_ := bb_ BK234 hb
                          have n8_ := bb_ BK244 hb
                          have n9_ := Aside0.mk (below_step (hbg_) hb)
                          clear HO_230001
                          clear HO_235001
                          clear HO_245001
                          clear BK213
                          clear BK214
                          clear BK229
                          clear BK234
                          clear BK244
                          clear HB
                          have HO_230001 := n0_
                          have HO_235001 := n1_
                          have HO_245001 := n2_
                          have HO260 := n3_
                          have BK213 := n4_
                          have BK214 := n5_
                          have BK229 := n6_
                          have BK234 := n7_
                          have BK244 := n8_
                          have HB := n9_
                          clear n0_ n1_ n2_ n3_ n4_ n5_ n6_ n7_ n8_ n9_
                          (try clear hb)
                          (try clear hb2)
                          (try clear hk)
                          (try clear hi)
                          (try clear ho0)
                          refine hK.out _ _ ⟨(blk_cell BK213.out 0).trans rfl, (blk_cell BK213.out 1).trans rfl, (blk_cell BK214.out 0).trans rfl, (blk_cell BK214.out 1).trans rfl, (blk_cell BK214.out 2).trans rfl, (blk_cell BK214.out 3).trans rfl⟩ (fun hHeld => ?_)
                          clear hK K
                          refine norm_ (a' := ?_) ?_ ?_
                          rotate_left
                          · show Act.put _ (some 81) _ = _
                            simp only [Act.put, sA, sB, sC, i64_w, i32_w]
                            rfl
                          refine two_ (i := 3) (j := 8) (Ni := some 83) (Nj := some 14) #[true, true, true, true, false, false, false, false, false, false, false] #[true, true, true, false, false, false, false, false, true, false, false] rfl rfl rfl rfl (two_of HT_.out (by kernel_rfl)) (by decide) (by decide) (fun K hK => ?_) (fun K hK => ?_)
                          · skip
                            refine goes_ Try.func21 (by kernel_rfl) rfl #[.agg #[.int .i64 a1_0, .int .i64 a1_1, .int .i64 a1_2, .int .i64 a1_3]] (by rfl) rfl rfl (by (try simp only [List.map_toArray, List.map_cons, List.map_nil]); first | done | rfl | (simp only [List.length_drop, List.length_take]; rfl)) ?_
                            with_reducible refine (laws_toClue.calls a1_0 a1_1 a1_2 a1_3 t261 t262 t263 t264 _ A117.out).mono ?_
                            rintro e w130 ⟨rfl, hb⟩
                            refine ⟨_, rfl, ?_⟩
                            have n0_ := Aside0.mk (Kd.R_below (rk_ HO_230001.out) hb)
                            have n1_ := Aside0.mk (Kd.R_below (rk_ HO_235001.out) hb)
                            have n2_ := Aside0.mk (Kd.R_below (rk_ HO_245001.out) hb)
                            have n3_ := Aside0.mk (Kd.R_below (rk_ HO260.out) hb)
                            have n4_ := bb_ BK213 hb
                            have n5_ := bb_ BK214 hb
                            have n6_ := bb_ BK229 hb
                            have n7_ := bb_ BK234 hb
                            have n8_ := bb_ BK244 hb
                            have n9_ := Aside0.mk (below_step (hbg_) hb)
                            clear HO_230001
                            clear HO_235001
                            clear HO_245001
                            clear HO260
                            clear BK213
                            clear BK214
                            clear BK229
                            clear BK234
                            clear BK244
                            clear HB
                            have HO_230001 := n0_
                            have HO_235001 := n1_
                            have HO_245001 := n2_
                            have HO260 := n3_
                            have BK213 := n4_
                            have BK214 := n5_
                            have BK229 := n6_
                            have BK234 := n7_
                            have BK244 := n8_
                            have HB := n9_
                            clear n0_ n1_ n2_ n3_ n4_ n5_ n6_ n7_ n8_ n9_
                            (try clear hb)
                            (try clear hb2)
                            (try clear hk)
                            (try clear hi)
                            obtain ⟨Ao131, co131, eo131⟩ := Kd.R_slice HO260.out
                            (first | subst eo131 | (injection eo131 with f1_ f2_ f3_; have f4_ := f1_.symm; have f5_ := f3_.symm; clear f1_ f2_ f3_; subst f4_; subst f5_))
                            refine hK.out _ _ ⟨(blk_cell BK213.out 0).trans rfl, (blk_cell BK213.out 1).trans rfl, (blk_cell BK214.out 0).trans rfl, (blk_cell BK214.out 1).trans rfl, (blk_cell BK214.out 2).trans rfl, (blk_cell BK214.out 3).trans rfl⟩ (fun hHeld => ?_)
                            clear hK K
                            refine norm_ (a' := ?_) ?_ ?_
                            rotate_left
                            · show Act.put _ (some 83) _ = _
                              simp only [Act.put, sA, sB, sC, i64_w, i32_w]
                              rfl
                            refine two_ (i := 4) (j := 8) (Ni := some 84) (Nj := some 14) #[true, true, true, true, true, false, false, false, false, false, false] #[true, true, true, true, false, false, false, false, true, false, false] rfl rfl rfl rfl (two_of HT_.out (by kernel_rfl)) (by decide) (by decide) (fun K hK => ?_) (fun K hK => ?_)
                            · skip
                              refine goes_ Try.func25 (by kernel_rfl) rfl #[.agg #[.int .i64 t257, .slice Ao131 t258.length co131], .agg #[.int .i64 t261, .int .i64 t262, .int .i64 t263, .int .i64 t264]] (by rfl) rfl rfl (by (try simp only [List.map_toArray, List.map_cons, List.map_nil]); first | done | rfl | (simp only [List.length_drop, List.length_take]; rfl)) ?_
                              with_reducible refine (impl_AddClue.calls kj76 t257 _ _ t258 t261 t262 t263 t264 t265 t266 t269 _ ?side1 ?side2 A118.out).mono ?_
                              (case side1 => repeat (first | exact (Kd.R_reads' HO260.out).2.2 | (with_reducible refine Kd.C_alloc ?_ _) | (with_reducible refine Kd.C_drewN ?_ _) | (with_reducible refine Kd.C_drew ?_)))
                              (case side2 => exact (Kd.R_reads' HO260.out).2.1)
                              rintro e w132 ⟨v267, rfl, ho0, hb⟩
                              refine ⟨_, rfl, ?_⟩
                              have n0_ := Aside0.mk (Kd.R_elder' (rk_ HO_230001.out) (Kd.R_base ho0) hb)
                              have n1_ := Aside0.mk (Kd.R_elder' (rk_ HO_235001.out) (Kd.R_base ho0) hb)
                              have n2_ := Aside0.mk (Kd.R_elder' (rk_ HO_245001.out) (Kd.R_base ho0) hb)
                              have n3_ := Aside0.mk (Kd.R_elder' (rk_ HO260.out) (Kd.R_base ho0) hb)
                              have n4_ := Aside0.mk (Kd.R_lower (Kd.R_new' (Kd.R_new' (Kd.R_new' (Kd.R_new' ho0 (Kd.R_lt (rk_ HO_230001.out))) (Kd.R_lt (rk_ HO_235001.out))) (Kd.R_lt (rk_ HO_245001.out))) (Kd.R_lt (rk_ HO260.out))) (below_size (hbg_)))
                              have n5_ := bb_ BK213 hb
                              have n6_ := bb_ BK214 hb
                              have n7_ := bb_ BK229 hb
                              have n8_ := bb_ BK234 hb
                              have n9_ := bb_ BK244 hb
                              have n10_ := Aside0.mk (below_step (hbg_) hb)
                              clear HO_230001
                              clear HO_235001
                              clear HO_245001
                              clear HO260
                              clear BK213
                              clear BK214
                              clear BK229
                              clear BK234
                              clear BK244
                              clear HB
                              have HO_230001 := n0_
                              have HO_235001 := n1_
                              have HO_245001 := n2_
                              have HO260 := n3_
                              have HO268 := n4_
                              have BK213 := n5_
                              have BK214 := n6_
                              have BK229 := n7_
                              have BK234 := n8_
                              have BK244 := n9_
                              have HB := n10_
                              clear n0_ n1_ n2_ n3_ n4_ n5_ n6_ n7_ n8_ n9_ n10_
                              (try clear hb)
                              (try clear hb2)
                              (try clear hk)
                              (try clear hi)
                              (try clear ho0)
                              refine hK.out _ _ ⟨(blk_cell BK213.out 0).trans rfl, (blk_cell BK213.out 1).trans rfl, (blk_cell BK214.out 0).trans rfl, (blk_cell BK214.out 1).trans rfl, (blk_cell BK214.out 2).trans rfl, (blk_cell BK214.out 3).trans rfl⟩ (fun hHeld => ?_)
                              clear hK K
                              refine norm_ (a' := ?_) ?_ ?_
                              rotate_left
                              · show Act.put _ (some 84) _ = _
                                simp only [Act.put, sA, sB, sC, i64_w, i32_w]
                                rfl
                              refine pure_ (i := 5) (N := some 79) (v := ?_) (a' := ?_) #[true, true, true, true, true, true, false, false, false, false, false] rfl rfl (any_of HT_.out (by kernel_rfl)) (fun _ _ _ h => h) (Or.inl ⟨by rfl, ?_⟩) ?_ ?_
                              rotate_left
                              · intro w'
                                go_simp
                                with_reducible rfl
                              rotate_left
                              · simp only [Act.put, sA, sB, sC, i64_w, i32_w]
                                rfl
                              refine pure_ (i := 6) (N := some 85) (v := ?_) (a' := ?_) #[true, true, true, true, true, true, true, false, false, false, false] rfl rfl (any_of HT_.out (by kernel_rfl)) (fun _ _ _ h => h) (Or.inl ⟨by rfl, ?_⟩) ?_ ?_
                              rotate_left
                              · intro w'
                                go_simp
                                with_reducible rfl
                              rotate_left
                              · simp only [Act.put, sA, sB, sC, i64_w, i32_w]
                                rfl
                              refine pure_ (i := 7) (N := some 86) (v := ?_) (a' := ?_) #[true, true, true, true, true, true, true, true, false, false, false] rfl rfl (any_of HT_.out (by kernel_rfl)) (fun _ _ _ h => h) (Or.inl ⟨by rfl, ?_⟩) ?_ ?_
                              rotate_left
                              · intro w'
                                go_simp
                                with_reducible rfl
                              rotate_left
                              · simp only [Act.put, sA, sB, sC, i64_w, i32_w]
                                rfl
                              refine one_ (i := 8) (N := some 14) #[true, true, true, true, true, true, true, true, true, false, false] rfl rfl (one_of HT_.out (by kernel_rfl)) (by decide) (fun K hK => ?_)
                              refine box_step ?hg (N := 14) ?hd (cs := #[.int .i64 0, .slice none 0 0]) (t := 29) ?hr ?_; (case hd => rfl); (case hg => rfl); (case hr => first | (go_simp; done) | (go_simp; rfl))
                              intro gb270 hg w133 hbox hb
                              have n0_ := Aside0.mk (Kd.R_below (rk_ HO_230001.out) hb)
                              have n1_ := Aside0.mk (Kd.R_below (rk_ HO_235001.out) hb)
                              have n2_ := Aside0.mk (Kd.R_below (rk_ HO_245001.out) hb)
                              have n3_ := Aside0.mk (Kd.R_below (rk_ HO260.out) hb)
                              have n4_ := Aside0.mk (Kd.R_below (rk_ HO268.out) hb)
                              have n5_ := bb_ BK213 hb
                              have n6_ := bb_ BK214 hb
                              have n7_ := bb_ BK229 hb
                              have n8_ := bb_ BK234 hb
                              have n9_ := bb_ BK244 hb
                              have n10_ := Aside0.mk (below_step (hbg_) hb)
                              have n11_ := Aside0.mk (hbox)
                              have n12_ := Aside0.mk ((by rw [hg]; exact (below_size (hbg_)) : w.heap.size ≤ gb270))
                              have n13_ := Aside0.mk ((by rw [hg]; exact (below_size (hbg_)) : w.heap.size ≤ gb270))
                              have n14_ := Aside0.mk ((by rw [hg]; exact Nat.ne_of_lt (blk_lt (bk_ BK213.out)) : gb213 ≠ gb270))
                              have n15_ := Aside0.mk ((by rw [hg]; exact Nat.ne_of_gt (blk_lt (bk_ BK213.out)) : gb270 ≠ gb213))
                              have n16_ := Aside0.mk ((by rw [hg]; exact Nat.ne_of_lt (blk_lt (bk_ BK214.out)) : gb214 ≠ gb270))
                              have n17_ := Aside0.mk ((by rw [hg]; exact Nat.ne_of_gt (blk_lt (bk_ BK214.out)) : gb270 ≠ gb214))
                              have n18_ := Aside0.mk ((by rw [hg]; exact Nat.ne_of_lt (blk_lt (bk_ BK229.out)) : gb229 ≠ gb270))
                              have n19_ := Aside0.mk ((by rw [hg]; exact Nat.ne_of_gt (blk_lt (bk_ BK229.out)) : gb270 ≠ gb229))
                              have n20_ := Aside0.mk ((by rw [hg]; exact Nat.ne_of_lt (blk_lt (bk_ BK234.out)) : gb234 ≠ gb270))
                              have n21_ := Aside0.mk ((by rw [hg]; exact Nat.ne_of_gt (blk_lt (bk_ BK234.out)) : gb270 ≠ gb234))
                              have n22_ := Aside0.mk ((by rw [hg]; exact Nat.ne_of_lt (blk_lt (bk_ BK244.out)) : gb244 ≠ gb270))
                              have n23_ := Aside0.mk ((by rw [hg]; exact Nat.ne_of_gt (blk_lt (bk_ BK244.out)) : gb270 ≠ gb244))
                              clear HO_230001
                              clear HO_235001
                              clear HO_245001
                              clear HO260
                              clear HO268
                              clear BK213
                              clear BK214
                              clear BK229
                              clear BK234
                              clear BK244
                              clear HB
                              have HO_230001 := n0_
                              have HO_235001 := n1_
                              have HO_245001 := n2_
                              have HO260 := n3_
                              have HO268 := n4_
                              have BK213 := n5_
                              have BK214 := n6_
                              have BK229 := n7_
                              have BK234 := n8_
                              have BK244 := n9_
                              have HB := n10_
                              have BK270 := n11_
                              have GW270 := n12_
                              have GE270 := n13_
                              have NB213_270 := n14_
                              have NB270_213 := n15_
                              have NB214_270 := n16_
                              have NB270_214 := n17_
                              have NB229_270 := n18_
                              have NB270_229 := n19_
                              have NB234_270 := n20_
                              have NB270_234 := n21_
                              have NB244_270 := n22_
                              have NB270_244 := n23_
                              clear n0_ n1_ n2_ n3_ n4_ n5_ n6_ n7_ n8_ n9_ n10_ n11_ n12_ n13_ n14_ n15_ n16_ n17_ n18_ n19_ n20_ n21_ n22_ n23_
                              clear hb hbox hg
                              refine hK.out _ _ ⟨(blk_cell BK213.out 0).trans rfl, (blk_cell BK213.out 1).trans rfl, (blk_cell BK214.out 0).trans rfl, (blk_cell BK214.out 1).trans rfl, (blk_cell BK214.out 2).trans rfl, (blk_cell BK214.out 3).trans rfl⟩ (fun hHeld => ?_)
                              clear hK K
                              refine norm_ (a' := ?_) ?_ ?_
                              rotate_left
                              · show Act.put _ (some 14) _ = _
                                simp only [Act.put, sA, sB, sC, i64_w, i32_w]
                                rfl
                              exact norm_ (by simp only [putAll, Act.put, List.setIfInBounds_toArray, List.set_cons_zero, List.set_cons_succ]) (hCont (.slice Ao131 t258.length co131, v267, gb270) _ ⟨hHeld, (by (with_reducible repeat (first | apply Kd.R_alloc | apply Kd.R_drewN | apply Kd.R_drew)); exact Kd.R_mono HO260.out (fun _ hk => ⟨hk.2, ⟨hk.1.1.1.2, ⟨hk.1.1.2, hk.1.2⟩⟩⟩)), (by (with_reducible repeat (first | apply Kd.R_alloc | apply Kd.R_drewN | apply Kd.R_drew)); exact Kd.R_mono HO268.out (fun _ hk => ⟨hk.2, ⟨hk.1.1.1.2, ⟨hk.1.1.2, hk.1.2⟩⟩⟩)), (by (with_reducible repeat (first | apply Kd.R_alloc | apply Kd.R_drewN | apply Kd.R_drew)); exact Kd.R_mono HO_230001.out (fun _ hk => ⟨hk.1.2, ⟨hk.2, ⟨hk.1.1.1, hk.1.1.2⟩⟩⟩)), (by (with_reducible repeat (first | apply Kd.R_alloc | apply Kd.R_drewN | apply Kd.R_drew)); exact Kd.R_mono HO_235001.out (fun _ hk => ⟨hk.1.2, ⟨hk.2, ⟨hk.1.1.1, hk.1.1.2⟩⟩⟩)), (by (with_reducible repeat (first | apply Kd.R_alloc | apply Kd.R_drewN | apply Kd.R_drew)); exact Kd.R_mono HO_245001.out (fun _ hk => ⟨hk.1.2, ⟨hk.2, ⟨hk.1.1.1, hk.1.1.2⟩⟩⟩)), (bk_ BK213.out), (bk_ BK214.out), (bk_ BK229.out), (bk_ BK234.out), (bk_ BK244.out), (bk_ BK270.out), GW270.out, GE270.out, NB213_270.out, NB270_213.out, NB214_270.out, NB270_214.out, NB229_270.out, NB270_229.out, NB234_270.out, NB270_234.out, NB244_270.out, NB270_244.out, (hbg_)⟩)
                            · skip
                              refine box_step ?hg (N := 14) ?hd (cs := #[.int .i64 0, .slice none 0 0]) (t := 29) ?hr ?_; (case hd => rfl); (case hg => rfl); (case hr => first | (go_simp; done) | (go_simp; rfl))
                              intro gb270 hg w131 hbox hb
                              have n0_ := Aside0.mk (Kd.R_below (rk_ HO_230001.out) hb)
                              have n1_ := Aside0.mk (Kd.R_below (rk_ HO_235001.out) hb)
                              have n2_ := Aside0.mk (Kd.R_below (rk_ HO_245001.out) hb)
                              have n3_ := Aside0.mk (Kd.R_below (rk_ HO260.out) hb)
                              have n4_ := bb_ BK213 hb
                              have n5_ := bb_ BK214 hb
                              have n6_ := bb_ BK229 hb
                              have n7_ := bb_ BK234 hb
                              have n8_ := bb_ BK244 hb
                              have n9_ := Aside0.mk (below_step (hbg_) hb)
                              have n10_ := Aside0.mk (hbox)
                              have n11_ := Aside0.mk ((by rw [hg]; exact (below_size (hbg_)) : w.heap.size ≤ gb270))
                              have n12_ := Aside0.mk ((by rw [hg]; exact (below_size (hbg_)) : w.heap.size ≤ gb270))
                              have n13_ := Aside0.mk ((by rw [hg]; exact Nat.ne_of_lt (blk_lt (bk_ BK213.out)) : gb213 ≠ gb270))
                              have n14_ := Aside0.mk ((by rw [hg]; exact Nat.ne_of_gt (blk_lt (bk_ BK213.out)) : gb270 ≠ gb213))
                              have n15_ := Aside0.mk ((by rw [hg]; exact Nat.ne_of_lt (blk_lt (bk_ BK214.out)) : gb214 ≠ gb270))
                              have n16_ := Aside0.mk ((by rw [hg]; exact Nat.ne_of_gt (blk_lt (bk_ BK214.out)) : gb270 ≠ gb214))
                              have n17_ := Aside0.mk ((by rw [hg]; exact Nat.ne_of_lt (blk_lt (bk_ BK229.out)) : gb229 ≠ gb270))
                              have n18_ := Aside0.mk ((by rw [hg]; exact Nat.ne_of_gt (blk_lt (bk_ BK229.out)) : gb270 ≠ gb229))
                              have n19_ := Aside0.mk ((by rw [hg]; exact Nat.ne_of_lt (blk_lt (bk_ BK234.out)) : gb234 ≠ gb270))
                              have n20_ := Aside0.mk ((by rw [hg]; exact Nat.ne_of_gt (blk_lt (bk_ BK234.out)) : gb270 ≠ gb234))
                              have n21_ := Aside0.mk ((by rw [hg]; exact Nat.ne_of_lt (blk_lt (bk_ BK244.out)) : gb244 ≠ gb270))
                              have n22_ := Aside0.mk ((by rw [hg]; exact Nat.ne_of_gt (blk_lt (bk_ BK244.out)) : gb270 ≠ gb244))
                              clear HO_230001
                              clear HO_235001
                              clear HO_245001
                              clear HO260
                              clear BK213
                              clear BK214
                              clear BK229
                              clear BK234
                              clear BK244
                              clear HB
                              have HO_230001 := n0_
                              have HO_235001 := n1_
                              have HO_245001 := n2_
                              have HO260 := n3_
                              have BK213 := n4_
                              have BK214 := n5_
                              have BK229 := n6_
                              have BK234 := n7_
                              have BK244 := n8_
                              have HB := n9_
                              have BK270 := n10_
                              have GW270 := n11_
                              have GE270 := n12_
                              have NB213_270 := n13_
                              have NB270_213 := n14_
                              have NB214_270 := n15_
                              have NB270_214 := n16_
                              have NB229_270 := n17_
                              have NB270_229 := n18_
                              have NB234_270 := n19_
                              have NB270_234 := n20_
                              have NB244_270 := n21_
                              have NB270_244 := n22_
                              clear n0_ n1_ n2_ n3_ n4_ n5_ n6_ n7_ n8_ n9_ n10_ n11_ n12_ n13_ n14_ n15_ n16_ n17_ n18_ n19_ n20_ n21_ n22_
                              clear hb hbox hg
                              obtain ⟨Ao132, co132, eo132⟩ := Kd.R_slice HO260.out
                              (first | subst eo132 | (injection eo132 with f1_ f2_ f3_; have f4_ := f1_.symm; have f5_ := f3_.symm; clear f1_ f2_ f3_; subst f4_; subst f5_))
                              refine hK.out _ _ ⟨(blk_cell BK213.out 0).trans rfl, (blk_cell BK213.out 1).trans rfl, (blk_cell BK214.out 0).trans rfl, (blk_cell BK214.out 1).trans rfl, (blk_cell BK214.out 2).trans rfl, (blk_cell BK214.out 3).trans rfl⟩ (fun hHeld => ?_)
                              clear hK K
                              refine norm_ (a' := ?_) ?_ ?_
                              rotate_left
                              · show Act.put _ (some 14) _ = _
                                simp only [Act.put, sA, sB, sC, i64_w, i32_w]
                                rfl
                              refine one_ (i := 4) (N := some 84) #[true, true, true, true, true, false, false, false, true, false, false] rfl rfl (one_of HT_.out (by kernel_rfl)) (by decide) (fun K hK => ?_)
                              refine goes_ Try.func25 (by kernel_rfl) rfl #[.agg #[.int .i64 t257, .slice Ao132 t258.length co132], .agg #[.int .i64 t261, .int .i64 t262, .int .i64 t263, .int .i64 t264]] (by rfl) rfl rfl (by (try simp only [List.map_toArray, List.map_cons, List.map_nil]); first | done | rfl | (simp only [List.length_drop, List.length_take]; rfl)) ?_
                              with_reducible refine (impl_AddClue.calls kj76 t257 _ _ t258 t261 t262 t263 t264 t265 t266 t269 _ ?side1 ?side2 A118.out).mono ?_
                              (case side1 => repeat (first | exact (Kd.R_reads' HO260.out).2.2 | (with_reducible refine Kd.C_alloc ?_ _) | (with_reducible refine Kd.C_drewN ?_ _) | (with_reducible refine Kd.C_drew ?_)))
                              (case side2 => exact (Kd.R_reads' HO260.out).2.1)
                              rintro e w133 ⟨v267, rfl, ho0, hb⟩
                              refine ⟨_, rfl, ?_⟩
                              have n0_ := Aside0.mk (Kd.R_elder' (rk_ HO_230001.out) (Kd.R_base ho0) hb)
                              have n1_ := Aside0.mk (Kd.R_elder' (rk_ HO_235001.out) (Kd.R_base ho0) hb)
                              have n2_ := Aside0.mk (Kd.R_elder' (rk_ HO_245001.out) (Kd.R_base ho0) hb)
                              have n3_ := Aside0.mk (Kd.R_elder' (rk_ HO260.out) (Kd.R_base ho0) hb)
                              have n4_ := Aside0.mk (Kd.R_lower (Kd.R_new' (Kd.R_new' (Kd.R_new' (Kd.R_new' ho0 (Kd.R_lt (rk_ HO_230001.out))) (Kd.R_lt (rk_ HO_235001.out))) (Kd.R_lt (rk_ HO_245001.out))) (Kd.R_lt (rk_ HO260.out))) (below_size (hbg_)))
                              have n5_ := bb_ BK213 hb
                              have n6_ := bb_ BK214 hb
                              have n7_ := bb_ BK229 hb
                              have n8_ := bb_ BK234 hb
                              have n9_ := bb_ BK244 hb
                              have n10_ := bb_ BK270 hb
                              have n11_ := Aside0.mk (below_step (hbg_) hb)
                              clear HO_230001
                              clear HO_235001
                              clear HO_245001
                              clear HO260
                              clear BK213
                              clear BK214
                              clear BK229
                              clear BK234
                              clear BK244
                              clear BK270
                              clear HB
                              have HO_230001 := n0_
                              have HO_235001 := n1_
                              have HO_245001 := n2_
                              have HO260 := n3_
                              have HO268 := n4_
                              have BK213 := n5_
                              have BK214 := n6_
                              have BK229 := n7_
                              have BK234 := n8_
                              have BK244 := n9_
                              have BK270 := n10_
                              have HB := n11_
                              clear n0_ n1_ n2_ n3_ n4_ n5_ n6_ n7_ n8_ n9_ n10_ n11_
                              (try clear hb)
                              (try clear hb2)
                              (try clear hk)
                              (try clear hi)
                              (try clear ho0)
                              refine hK.out _ _ ⟨(blk_cell BK213.out 0).trans rfl, (blk_cell BK213.out 1).trans rfl, (blk_cell BK214.out 0).trans rfl, (blk_cell BK214.out 1).trans rfl, (blk_cell BK214.out 2).trans rfl, (blk_cell BK214.out 3).trans rfl⟩ (fun hHeld => ?_)
                              clear hK K
                              refine norm_ (a' := ?_) ?_ ?_
                              rotate_left
                              · show Act.put _ (some 84) _ = _
                                simp only [Act.put, sA, sB, sC, i64_w, i32_w]
                                rfl
                              refine pure_ (i := 5) (N := some 79) (v := ?_) (a' := ?_) #[true, true, true, true, true, true, false, false, true, false, false] rfl rfl (any_of HT_.out (by kernel_rfl)) (fun _ _ _ h => h) (Or.inl ⟨by rfl, ?_⟩) ?_ ?_
                              rotate_left
                              · intro w'
                                go_simp
                                with_reducible rfl
                              rotate_left
                              · simp only [Act.put, sA, sB, sC, i64_w, i32_w]
                                rfl
                              refine pure_ (i := 6) (N := some 85) (v := ?_) (a' := ?_) #[true, true, true, true, true, true, true, false, true, false, false] rfl rfl (any_of HT_.out (by kernel_rfl)) (fun _ _ _ h => h) (Or.inl ⟨by rfl, ?_⟩) ?_ ?_
                              rotate_left
                              · intro w'
                                go_simp
                                with_reducible rfl
                              rotate_left
                              · simp only [Act.put, sA, sB, sC, i64_w, i32_w]
                                rfl
                              refine pure_ (i := 7) (N := some 86) (v := ?_) (a' := ?_) #[true, true, true, true, true, true, true, true, true, false, false] rfl rfl (any_of HT_.out (by kernel_rfl)) (fun _ _ _ h => h) (Or.inl ⟨by rfl, ?_⟩) ?_ ?_
                              rotate_left
                              · intro w'
                                go_simp
                                with_reducible rfl
                              rotate_left
                              · simp only [Act.put, sA, sB, sC, i64_w, i32_w]
                                rfl
                              exact norm_ (by simp only [putAll, Act.put, List.setIfInBounds_toArray, List.set_cons_zero, List.set_cons_succ]) (hCont (.slice Ao132 t258.length co132, v267, gb270) _ ⟨hHeld, (by (with_reducible repeat (first | apply Kd.R_alloc | apply Kd.R_drewN | apply Kd.R_drew)); exact Kd.R_mono HO260.out (fun _ hk => ⟨hk.2, ⟨hk.1.1.1.2, ⟨hk.1.1.2, hk.1.2⟩⟩⟩)), (by (with_reducible repeat (first | apply Kd.R_alloc | apply Kd.R_drewN | apply Kd.R_drew)); exact Kd.R_mono HO268.out (fun _ hk => ⟨hk.2, ⟨hk.1.1.1.2, ⟨hk.1.1.2, hk.1.2⟩⟩⟩)), (by (with_reducible repeat (first | apply Kd.R_alloc | apply Kd.R_drewN | apply Kd.R_drew)); exact Kd.R_mono HO_230001.out (fun _ hk => ⟨hk.1.2, ⟨hk.2, ⟨hk.1.1.1, hk.1.1.2⟩⟩⟩)), (by (with_reducible repeat (first | apply Kd.R_alloc | apply Kd.R_drewN | apply Kd.R_drew)); exact Kd.R_mono HO_235001.out (fun _ hk => ⟨hk.1.2, ⟨hk.2, ⟨hk.1.1.1, hk.1.1.2⟩⟩⟩)), (by (with_reducible repeat (first | apply Kd.R_alloc | apply Kd.R_drewN | apply Kd.R_drew)); exact Kd.R_mono HO_245001.out (fun _ hk => ⟨hk.1.2, ⟨hk.2, ⟨hk.1.1.1, hk.1.1.2⟩⟩⟩)), (bk_ BK213.out), (bk_ BK214.out), (bk_ BK229.out), (bk_ BK234.out), (bk_ BK244.out), (bk_ BK270.out), GW270.out, GE270.out, NB213_270.out, NB270_213.out, NB214_270.out, NB270_214.out, NB229_270.out, NB270_229.out, NB234_270.out, NB270_234.out, NB244_270.out, NB270_244.out, (hbg_)⟩)
                          · skip
                            refine box_step ?hg (N := 14) ?hd (cs := #[.int .i64 0, .slice none 0 0]) (t := 29) ?hr ?_; (case hd => rfl); (case hg => rfl); (case hr => first | (go_simp; done) | (go_simp; rfl))
                            intro gb270 hg w130 hbox hb
                            have n0_ := Aside0.mk (Kd.R_below (rk_ HO_230001.out) hb)
                            have n1_ := Aside0.mk (Kd.R_below (rk_ HO_235001.out) hb)
                            have n2_ := Aside0.mk (Kd.R_below (rk_ HO_245001.out) hb)
                            have n3_ := Aside0.mk (Kd.R_below (rk_ HO260.out) hb)
                            have n4_ := bb_ BK213 hb
                            have n5_ := bb_ BK214 hb
                            have n6_ := bb_ BK229 hb
                            have n7_ := bb_ BK234 hb
                            have n8_ := bb_ BK244 hb
                            have n9_ := Aside0.mk (below_step (hbg_) hb)
                            have n10_ := Aside0.mk (hbox)
                            have n11_ := Aside0.mk ((by rw [hg]; exact (below_size (hbg_)) : w.heap.size ≤ gb270))
                            have n12_ := Aside0.mk ((by rw [hg]; exact (below_size (hbg_)) : w.heap.size ≤ gb270))
                            have n13_ := Aside0.mk ((by rw [hg]; exact Nat.ne_of_lt (blk_lt (bk_ BK213.out)) : gb213 ≠ gb270))
                            have n14_ := Aside0.mk ((by rw [hg]; exact Nat.ne_of_gt (blk_lt (bk_ BK213.out)) : gb270 ≠ gb213))
                            have n15_ := Aside0.mk ((by rw [hg]; exact Nat.ne_of_lt (blk_lt (bk_ BK214.out)) : gb214 ≠ gb270))
                            have n16_ := Aside0.mk ((by rw [hg]; exact Nat.ne_of_gt (blk_lt (bk_ BK214.out)) : gb270 ≠ gb214))
                            have n17_ := Aside0.mk ((by rw [hg]; exact Nat.ne_of_lt (blk_lt (bk_ BK229.out)) : gb229 ≠ gb270))
                            have n18_ := Aside0.mk ((by rw [hg]; exact Nat.ne_of_gt (blk_lt (bk_ BK229.out)) : gb270 ≠ gb229))
                            have n19_ := Aside0.mk ((by rw [hg]; exact Nat.ne_of_lt (blk_lt (bk_ BK234.out)) : gb234 ≠ gb270))
                            have n20_ := Aside0.mk ((by rw [hg]; exact Nat.ne_of_gt (blk_lt (bk_ BK234.out)) : gb270 ≠ gb234))
                            have n21_ := Aside0.mk ((by rw [hg]; exact Nat.ne_of_lt (blk_lt (bk_ BK244.out)) : gb244 ≠ gb270))
                            have n22_ := Aside0.mk ((by rw [hg]; exact Nat.ne_of_gt (blk_lt (bk_ BK244.out)) : gb270 ≠ gb244))
                            clear HO_230001
                            clear HO_235001
                            clear HO_245001
                            clear HO260
                            clear BK213
                            clear BK214
                            clear BK229
                            clear BK234
                            clear BK244
                            clear HB
                            have HO_230001 := n0_
                            have HO_235001 := n1_
                            have HO_245001 := n2_
                            have HO260 := n3_
                            have BK213 := n4_
                            have BK214 := n5_
                            have BK229 := n6_
                            have BK234 := n7_
                            have BK244 := n8_
                            have HB := n9_
                            have BK270 := n10_
                            have GW270 := n11_
                            have GE270 := n12_
                            have NB213_270 := n13_
                            have NB270_213 := n14_
                            have NB214_270 := n15_
                            have NB270_214 := n16_
                            have NB229_270 := n17_
                            have NB270_229 := n18_
                            have NB234_270 := n19_
                            have NB270_234 := n20_
                            have NB244_270 := n21_
                            have NB270_244 := n22_
                            clear n0_ n1_ n2_ n3_ n4_ n5_ n6_ n7_ n8_ n9_ n10_ n11_ n12_ n13_ n14_ n15_ n16_ n17_ n18_ n19_ n20_ n21_ n22_
                            clear hb hbox hg
                            refine hK.out _ _ ⟨(blk_cell BK213.out 0).trans rfl, (blk_cell BK213.out 1).trans rfl, (blk_cell BK214.out 0).trans rfl, (blk_cell BK214.out 1).trans rfl, (blk_cell BK214.out 2).trans rfl, (blk_cell BK214.out 3).trans rfl⟩ (fun hHeld => ?_)
                            clear hK K
                            refine norm_ (a' := ?_) ?_ ?_
                            rotate_left
                            · show Act.put _ (some 14) _ = _
                              simp only [Act.put, sA, sB, sC, i64_w, i32_w]
                              rfl
                            refine one_ (i := 3) (N := some 83) #[true, true, true, true, false, false, false, false, true, false, false] rfl rfl (one_of HT_.out (by kernel_rfl)) (by decide) (fun K hK => ?_)
                            refine goes_ Try.func21 (by kernel_rfl) rfl #[.agg #[.int .i64 a1_0, .int .i64 a1_1, .int .i64 a1_2, .int .i64 a1_3]] (by rfl) rfl rfl (by (try simp only [List.map_toArray, List.map_cons, List.map_nil]); first | done | rfl | (simp only [List.length_drop, List.length_take]; rfl)) ?_
                            with_reducible refine (laws_toClue.calls a1_0 a1_1 a1_2 a1_3 t261 t262 t263 t264 _ A117.out).mono ?_
                            rintro e w131 ⟨rfl, hb⟩
                            refine ⟨_, rfl, ?_⟩
                            have n0_ := Aside0.mk (Kd.R_below (rk_ HO_230001.out) hb)
                            have n1_ := Aside0.mk (Kd.R_below (rk_ HO_235001.out) hb)
                            have n2_ := Aside0.mk (Kd.R_below (rk_ HO_245001.out) hb)
                            have n3_ := Aside0.mk (Kd.R_below (rk_ HO260.out) hb)
                            have n4_ := bb_ BK213 hb
                            have n5_ := bb_ BK214 hb
                            have n6_ := bb_ BK229 hb
                            have n7_ := bb_ BK234 hb
                            have n8_ := bb_ BK244 hb
                            have n9_ := bb_ BK270 hb
                            have n10_ := Aside0.mk (below_step (hbg_) hb)
                            clear HO_230001
                            clear HO_235001
                            clear HO_245001
                            clear HO260
                            clear BK213
                            clear BK214
                            clear BK229
                            clear BK234
                            clear BK244
                            clear BK270
                            clear HB
                            have HO_230001 := n0_
                            have HO_235001 := n1_
                            have HO_245001 := n2_
                            have HO260 := n3_
                            have BK213 := n4_
                            have BK214 := n5_
                            have BK229 := n6_
                            have BK234 := n7_
                            have BK244 := n8_
                            have BK270 := n9_
                            have HB := n10_
                            clear n0_ n1_ n2_ n3_ n4_ n5_ n6_ n7_ n8_ n9_ n10_
                            (try clear hb)
                            (try clear hb2)
                            (try clear hk)
                            (try clear hi)
                            obtain ⟨Ao132, co132, eo132⟩ := Kd.R_slice HO260.out
                            (first | subst eo132 | (injection eo132 with f1_ f2_ f3_; have f4_ := f1_.symm; have f5_ := f3_.symm; clear f1_ f2_ f3_; subst f4_; subst f5_))
                            refine hK.out _ _ ⟨(blk_cell BK213.out 0).trans rfl, (blk_cell BK213.out 1).trans rfl, (blk_cell BK214.out 0).trans rfl, (blk_cell BK214.out 1).trans rfl, (blk_cell BK214.out 2).trans rfl, (blk_cell BK214.out 3).trans rfl⟩ (fun hHeld => ?_)
                            clear hK K
                            refine norm_ (a' := ?_) ?_ ?_
                            rotate_left
                            · show Act.put _ (some 83) _ = _
                              simp only [Act.put, sA, sB, sC, i64_w, i32_w]
                              rfl
                            refine one_ (i := 4) (N := some 84) #[true, true, true, true, true, false, false, false, true, false, false] rfl rfl (one_of HT_.out (by kernel_rfl)) (by decide) (fun K hK => ?_)
                            refine goes_ Try.func25 (by kernel_rfl) rfl #[.agg #[.int .i64 t257, .slice Ao132 t258.length co132], .agg #[.int .i64 t261, .int .i64 t262, .int .i64 t263, .int .i64 t264]] (by rfl) rfl rfl (by (try simp only [List.map_toArray, List.map_cons, List.map_nil]); first | done | rfl | (simp only [List.length_drop, List.length_take]; rfl)) ?_
                            with_reducible refine (impl_AddClue.calls kj76 t257 _ _ t258 t261 t262 t263 t264 t265 t266 t269 _ ?side1 ?side2 A118.out).mono ?_
                            (case side1 => repeat (first | exact (Kd.R_reads' HO260.out).2.2 | (with_reducible refine Kd.C_alloc ?_ _) | (with_reducible refine Kd.C_drewN ?_ _) | (with_reducible refine Kd.C_drew ?_)))
                            (case side2 => exact (Kd.R_reads' HO260.out).2.1)
                            rintro e w133 ⟨v267, rfl, ho0, hb⟩
                            refine ⟨_, rfl, ?_⟩
                            have n0_ := Aside0.mk (Kd.R_elder' (rk_ HO_230001.out) (Kd.R_base ho0) hb)
                            have n1_ := Aside0.mk (Kd.R_elder' (rk_ HO_235001.out) (Kd.R_base ho0) hb)
                            have n2_ := Aside0.mk (Kd.R_elder' (rk_ HO_245001.out) (Kd.R_base ho0) hb)
                            have n3_ := Aside0.mk (Kd.R_elder' (rk_ HO260.out) (Kd.R_base ho0) hb)
                            have n4_ := Aside0.mk (Kd.R_lower (Kd.R_new' (Kd.R_new' (Kd.R_new' (Kd.R_new' ho0 (Kd.R_lt (rk_ HO_230001.out))) (Kd.R_lt (rk_ HO_235001.out))) (Kd.R_lt (rk_ HO_245001.out))) (Kd.R_lt (rk_ HO260.out))) (below_size (hbg_)))
                            have n5_ := bb_ BK213 hb
                            have n6_ := bb_ BK214 hb
                            have n7_ := bb_ BK229 hb
                            have n8_ := bb_ BK234 hb
                            have n9_ := bb_ BK244 hb
                            have n10_ := bb_ BK270 hb
                            have n11_ := Aside0.mk (below_step (hbg_) hb)
                            clear HO_230001
                            clear HO_235001
                            clear HO_245001
                            clear HO260
                            clear BK213
                            clear BK214
                            clear BK229
                            clear BK234
                            clear BK244
                            clear BK270
                            clear HB
                            have HO_230001 := n0_
                            have HO_235001 := n1_
                            have HO_245001 := n2_
                            have HO260 := n3_
                            have HO268 := n4_
                            have BK213 := n5_
                            have BK214 := n6_
                            have BK229 := n7_
                            have BK234 := n8_
                            have BK244 := n9_
                            have BK270 := n10_
                            have HB := n11_
                            clear n0_ n1_ n2_ n3_ n4_ n5_ n6_ n7_ n8_ n9_ n10_ n11_
                            (try clear hb)
                            (try clear hb2)
                            (try clear hk)
                            (try clear hi)
                            (try clear ho0)
                            refine hK.out _ _ ⟨(blk_cell BK213.out 0).trans rfl, (blk_cell BK213.out 1).trans rfl, (blk_cell BK214.out 0).trans rfl, (blk_cell BK214.out 1).trans rfl, (blk_cell BK214.out 2).trans rfl, (blk_cell BK214.out 3).trans rfl⟩ (fun hHeld => ?_)
                            clear hK K
                            refine norm_ (a' := ?_) ?_ ?_
                            rotate_left
                            · show Act.put _ (some 84) _ = _
                              simp only [Act.put, sA, sB, sC, i64_w, i32_w]
                              rfl
                            refine pure_ (i := 5) (N := some 79) (v := ?_) (a' := ?_) #[true, true, true, true, true, true, false, false, true, false, false] rfl rfl (any_of HT_.out (by kernel_rfl)) (fun _ _ _ h => h) (Or.inl ⟨by rfl, ?_⟩) ?_ ?_
                            rotate_left
                            · intro w'
                              go_simp
                              with_reducible rfl
                            rotate_left
                            · simp only [Act.put, sA, sB, sC, i64_w, i32_w]
                              rfl
                            refine pure_ (i := 6) (N := some 85) (v := ?_) (a' := ?_) #[true, true, true, true, true, true, true, false, true, false, false] rfl rfl (any_of HT_.out (by kernel_rfl)) (fun _ _ _ h => h) (Or.inl ⟨by rfl, ?_⟩) ?_ ?_
                            rotate_left
                            · intro w'
                              go_simp
                              with_reducible rfl
                            rotate_left
                            · simp only [Act.put, sA, sB, sC, i64_w, i32_w]
                              rfl
                            refine pure_ (i := 7) (N := some 86) (v := ?_) (a' := ?_) #[true, true, true, true, true, true, true, true, true, false, false] rfl rfl (any_of HT_.out (by kernel_rfl)) (fun _ _ _ h => h) (Or.inl ⟨by rfl, ?_⟩) ?_ ?_
                            rotate_left
                            · intro w'
                              go_simp
                              with_reducible rfl
                            rotate_left
                            · simp only [Act.put, sA, sB, sC, i64_w, i32_w]
                              rfl
                            exact norm_ (by simp only [putAll, Act.put, List.setIfInBounds_toArray, List.set_cons_zero, List.set_cons_succ]) (hCont (.slice Ao132 t258.length co132, v267, gb270) _ ⟨hHeld, (by (with_reducible repeat (first | apply Kd.R_alloc | apply Kd.R_drewN | apply Kd.R_drew)); exact Kd.R_mono HO260.out (fun _ hk => ⟨hk.2, ⟨hk.1.1.1.2, ⟨hk.1.1.2, hk.1.2⟩⟩⟩)), (by (with_reducible repeat (first | apply Kd.R_alloc | apply Kd.R_drewN | apply Kd.R_drew)); exact Kd.R_mono HO268.out (fun _ hk => ⟨hk.2, ⟨hk.1.1.1.2, ⟨hk.1.1.2, hk.1.2⟩⟩⟩)), (by (with_reducible repeat (first | apply Kd.R_alloc | apply Kd.R_drewN | apply Kd.R_drew)); exact Kd.R_mono HO_230001.out (fun _ hk => ⟨hk.1.2, ⟨hk.2, ⟨hk.1.1.1, hk.1.1.2⟩⟩⟩)), (by (with_reducible repeat (first | apply Kd.R_alloc | apply Kd.R_drewN | apply Kd.R_drew)); exact Kd.R_mono HO_235001.out (fun _ hk => ⟨hk.1.2, ⟨hk.2, ⟨hk.1.1.1, hk.1.1.2⟩⟩⟩)), (by (with_reducible repeat (first | apply Kd.R_alloc | apply Kd.R_drewN | apply Kd.R_drew)); exact Kd.R_mono HO_245001.out (fun _ hk => ⟨hk.1.2, ⟨hk.2, ⟨hk.1.1.1, hk.1.1.2⟩⟩⟩)), (bk_ BK213.out), (bk_ BK214.out), (bk_ BK229.out), (bk_ BK234.out), (bk_ BK244.out), (bk_ BK270.out), GW270.out, GE270.out, NB213_270.out, NB270_213.out, NB214_270.out, NB270_214.out, NB229_270.out, NB270_229.out, NB234_270.out, NB270_234.out, NB244_270.out, NB270_244.out, (hbg_)⟩)
                        · skip
                          refine box_step ?hg (N := 14) ?hd (cs := #[.int .i64 0, .slice none 0 0]) (t := 29) ?hr ?_; (case hd => rfl); (case hg => rfl); (case hr => first | (go_simp; done) | (go_simp; rfl))
                          intro gb270 hg w129 hbox hb
                          have n0_ := Aside0.mk (Kd.R_below (rk_ HO_230001.out) hb)
                          have n1_ := Aside0.mk (Kd.R_below (rk_ HO_235001.out) hb)
                          have n2_ := Aside0.mk (Kd.R_below (rk_ HO_245001.out) hb)
                          have n3_ := bb_ BK213 hb
                          have n4_ := bb_ BK214 hb
                          have n5_ := bb_ BK229 hb
                          have n6_ := bb_ BK234 hb
                          have n7_ := bb_ BK244 hb
                          have n8_ := Aside0.mk (below_step (hbg_) hb)
                          have n9_ := Aside0.mk (hbox)
                          have n10_ := Aside0.mk ((by rw [hg]; exact (below_size (hbg_)) : w.heap.size ≤ gb270))
                          have n11_ := Aside0.mk ((by rw [hg]; exact (below_size (hbg_)) : w.heap.size ≤ gb270))
                          have n12_ := Aside0.mk ((by rw [hg]; exact Nat.ne_of_lt (blk_lt (bk_ BK213.out)) : gb213 ≠ gb270))
                          have n13_ := Aside0.mk ((by rw [hg]; exact Nat.ne_of_gt (blk_lt (bk_ BK213.out)) : gb270 ≠ gb213))
                          have n14_ := Aside0.mk ((by rw [hg]; exact Nat.ne_of_lt (blk_lt (bk_ BK214.out)) : gb214 ≠ gb270))
                          have n15_ := Aside0.mk ((by rw [hg]; exact Nat.ne_of_gt (blk_lt (bk_ BK214.out)) : gb270 ≠ gb214))
                          have n16_ := Aside0.mk ((by rw [hg]; exact Nat.ne_of_lt (blk_lt (bk_ BK229.out)) : gb229 ≠ gb270))
                          have n17_ := Aside0.mk ((by rw [hg]; exact Nat.ne_of_gt (blk_lt (bk_ BK229.out)) : gb270 ≠ gb229))
                          have n18_ := Aside0.mk ((by rw [hg]; exact Nat.ne_of_lt (blk_lt (bk_ BK234.out)) : gb234 ≠ gb270))
                          have n19_ := Aside0.mk ((by rw [hg]; exact Nat.ne_of_gt (blk_lt (bk_ BK234.out)) : gb270 ≠ gb234))
                          have n20_ := Aside0.mk ((by rw [hg]; exact Nat.ne_of_lt (blk_lt (bk_ BK244.out)) : gb244 ≠ gb270))
                          have n21_ := Aside0.mk ((by rw [hg]; exact Nat.ne_of_gt (blk_lt (bk_ BK244.out)) : gb270 ≠ gb244))
                          clear HO_230001
                          clear HO_235001
                          clear HO_245001
                          clear BK213
                          clear BK214
                          clear BK229
                          clear BK234
                          clear BK244
                          clear HB
                          have HO_230001 := n0_
                          have HO_235001 := n1_
                          have HO_245001 := n2_
                          have BK213 := n3_
                          have BK214 := n4_
                          have BK229 := n5_
                          have BK234 := n6_
                          have BK244 := n7_
                          have HB := n8_
                          have BK270 := n9_
                          have GW270 := n10_
                          have GE270 := n11_
                          have NB213_270 := n12_
                          have NB270_213 := n13_
                          have NB214_270 := n14_
                          have NB270_214 := n15_
                          have NB229_270 := n16_
                          have NB270_229 := n17_
                          have NB234_270 := n18_
                          have NB270_234 := n19_
                          have NB244_270 := n20_
                          have NB270_244 := n21_
                          clear n0_ n1_ n2_ n3_ n4_ n5_ n6_ n7_ n8_ n9_ n10_ n11_ n12_ n13_ n14_ n15_ n16_ n17_ n18_ n19_ n20_ n21_
                          clear hb hbox hg
                          refine hK.out _ _ ⟨(blk_cell BK213.out 0).trans rfl, (blk_cell BK213.out 1).trans rfl, (blk_cell BK214.out 0).trans rfl, (blk_cell BK214.out 1).trans rfl, (blk_cell BK214.out 2).trans rfl, (blk_cell BK214.out 3).trans rfl⟩ (fun hHeld => ?_)
                          clear hK K
                          refine norm_ (a' := ?_) ?_ ?_
                          rotate_left
                          · show Act.put _ (some 14) _ = _
                            simp only [Act.put, sA, sB, sC, i64_w, i32_w]
                            rfl
                          refine one_ (i := 1) (N := some 81) #[true, true, true, false, false, false, false, false, true, false, false] rfl rfl (one_of HT_.out (by kernel_rfl)) (by decide) (fun K hK => ?_)
                          refine goes_ Try.func17 (by kernel_rfl) rfl #[.agg #[.int .i64 a0_0, .slice A0_1 l0_1.length c0_1]] (by rfl) rfl rfl (by (try simp only [List.map_toArray, List.map_cons, List.map_nil]); first | done | rfl | (simp only [List.length_drop, List.length_take]; rfl)) ?_
                          with_reducible refine (laws_toPuzzle.calls kj76 a0_0 _ _ l0_1 t257 t258 _ ?side1 ?side2 A116.out).mono ?_
                          (case side1 => repeat (first | exact (Kd.C_below HR0_1.out HB.out) | (with_reducible refine Kd.C_alloc ?_ _) | (with_reducible refine Kd.C_drewN ?_ _) | (with_reducible refine Kd.C_drew ?_)))
                          (case side2 => exact HC0_1.out)
                          rintro e w130 ⟨v259, rfl, ho0, hb⟩
                          refine ⟨_, rfl, ?_⟩
                          have n0_ := Aside0.mk (Kd.R_elder' (rk_ HO_230001.out) (Kd.R_base ho0) hb)
                          have n1_ := Aside0.mk (Kd.R_elder' (rk_ HO_235001.out) (Kd.R_base ho0) hb)
                          have n2_ := Aside0.mk (Kd.R_elder' (rk_ HO_245001.out) (Kd.R_base ho0) hb)
                          have n3_ := Aside0.mk (Kd.R_lower (Kd.R_new' (Kd.R_new' (Kd.R_new' ho0 (Kd.R_lt (rk_ HO_230001.out))) (Kd.R_lt (rk_ HO_235001.out))) (Kd.R_lt (rk_ HO_245001.out))) (below_size (hbg_)))
                          have n4_ := bb_ BK213 hb
                          have n5_ := bb_ BK214 hb
                          have n6_ := bb_ BK229 hb
                          have n7_ := bb_ BK234 hb
                          have n8_ := bb_ BK244 hb
                          have n9_ := bb_ BK270 hb
                          have n10_ := Aside0.mk (below_step (hbg_) hb)
                          clear HO_230001
                          clear HO_235001
                          clear HO_245001
                          clear BK213
                          clear BK214
                          clear BK229
                          clear BK234
                          clear BK244
                          clear BK270
                          clear HB
                          have HO_230001 := n0_
                          have HO_235001 := n1_
                          have HO_245001 := n2_
                          have HO260 := n3_
                          have BK213 := n4_
                          have BK214 := n5_
                          have BK229 := n6_
                          have BK234 := n7_
                          have BK244 := n8_
                          have BK270 := n9_
                          have HB := n10_
                          clear n0_ n1_ n2_ n3_ n4_ n5_ n6_ n7_ n8_ n9_ n10_
                          (try clear hb)
                          (try clear hb2)
                          (try clear hk)
                          (try clear hi)
                          (try clear ho0)
                          refine hK.out _ _ ⟨(blk_cell BK213.out 0).trans rfl, (blk_cell BK213.out 1).trans rfl, (blk_cell BK214.out 0).trans rfl, (blk_cell BK214.out 1).trans rfl, (blk_cell BK214.out 2).trans rfl, (blk_cell BK214.out 3).trans rfl⟩ (fun hHeld => ?_)
                          clear hK K
                          refine norm_ (a' := ?_) ?_ ?_
                          rotate_left
                          · show Act.put _ (some 81) _ = _
                            simp only [Act.put, sA, sB, sC, i64_w, i32_w]
                            rfl
                          refine one_ (i := 3) (N := some 83) #[true, true, true, true, false, false, false, false, true, false, false] rfl rfl (one_of HT_.out (by kernel_rfl)) (by decide) (fun K hK => ?_)
                          refine goes_ Try.func21 (by kernel_rfl) rfl #[.agg #[.int .i64 a1_0, .int .i64 a1_1, .int .i64 a1_2, .int .i64 a1_3]] (by rfl) rfl rfl (by (try simp only [List.map_toArray, List.map_cons, List.map_nil]); first | done | rfl | (simp only [List.length_drop, List.length_take]; rfl)) ?_
                          with_reducible refine (laws_toClue.calls a1_0 a1_1 a1_2 a1_3 t261 t262 t263 t264 _ A117.out).mono ?_
                          rintro e w131 ⟨rfl, hb⟩
                          refine ⟨_, rfl, ?_⟩
                          have n0_ := Aside0.mk (Kd.R_below (rk_ HO_230001.out) hb)
                          have n1_ := Aside0.mk (Kd.R_below (rk_ HO_235001.out) hb)
                          have n2_ := Aside0.mk (Kd.R_below (rk_ HO_245001.out) hb)
                          have n3_ := Aside0.mk (Kd.R_below (rk_ HO260.out) hb)
                          have n4_ := bb_ BK213 hb
                          have n5_ := bb_ BK214 hb
                          have n6_ := bb_ BK229 hb
                          have n7_ := bb_ BK234 hb
                          have n8_ := bb_ BK244 hb
                          have n9_ := bb_ BK270 hb
                          have n10_ := Aside0.mk (below_step (hbg_) hb)
                          clear HO_230001
                          clear HO_235001
                          clear HO_245001
                          clear HO260
                          clear BK213
                          clear BK214
                          clear BK229
                          clear BK234
                          clear BK244
                          clear BK270
                          clear HB
                          have HO_230001 := n0_
                          have HO_235001 := n1_
                          have HO_245001 := n2_
                          have HO260 := n3_
                          have BK213 := n4_
                          have BK214 := n5_
                          have BK229 := n6_
                          have BK234 := n7_
                          have BK244 := n8_
                          have BK270 := n9_
                          have HB := n10_
                          clear n0_ n1_ n2_ n3_ n4_ n5_ n6_ n7_ n8_ n9_ n10_
                          (try clear hb)
                          (try clear hb2)
                          (try clear hk)
                          (try clear hi)
                          obtain ⟨Ao132, co132, eo132⟩ := Kd.R_slice HO260.out
                          (first | subst eo132 | (injection eo132 with f1_ f2_ f3_; have f4_ := f1_.symm; have f5_ := f3_.symm; clear f1_ f2_ f3_; subst f4_; subst f5_))
                          refine hK.out _ _ ⟨(blk_cell BK213.out 0).trans rfl, (blk_cell BK213.out 1).trans rfl, (blk_cell BK214.out 0).trans rfl, (blk_cell BK214.out 1).trans rfl, (blk_cell BK214.out 2).trans rfl, (blk_cell BK214.out 3).trans rfl⟩ (fun hHeld => ?_)
                          clear hK K
                          refine norm_ (a' := ?_) ?_ ?_
                          rotate_left
                          · show Act.put _ (some 83) _ = _
                            simp only [Act.put, sA, sB, sC, i64_w, i32_w]
                            rfl
                          refine one_ (i := 4) (N := some 84) #[true, true, true, true, true, false, false, false, true, false, false] rfl rfl (one_of HT_.out (by kernel_rfl)) (by decide) (fun K hK => ?_)
                          refine goes_ Try.func25 (by kernel_rfl) rfl #[.agg #[.int .i64 t257, .slice Ao132 t258.length co132], .agg #[.int .i64 t261, .int .i64 t262, .int .i64 t263, .int .i64 t264]] (by rfl) rfl rfl (by (try simp only [List.map_toArray, List.map_cons, List.map_nil]); first | done | rfl | (simp only [List.length_drop, List.length_take]; rfl)) ?_
                          with_reducible refine (impl_AddClue.calls kj76 t257 _ _ t258 t261 t262 t263 t264 t265 t266 t269 _ ?side1 ?side2 A118.out).mono ?_
                          (case side1 => repeat (first | exact (Kd.R_reads' HO260.out).2.2 | (with_reducible refine Kd.C_alloc ?_ _) | (with_reducible refine Kd.C_drewN ?_ _) | (with_reducible refine Kd.C_drew ?_)))
                          (case side2 => exact (Kd.R_reads' HO260.out).2.1)
                          rintro e w133 ⟨v267, rfl, ho0, hb⟩
                          refine ⟨_, rfl, ?_⟩
                          have n0_ := Aside0.mk (Kd.R_elder' (rk_ HO_230001.out) (Kd.R_base ho0) hb)
                          have n1_ := Aside0.mk (Kd.R_elder' (rk_ HO_235001.out) (Kd.R_base ho0) hb)
                          have n2_ := Aside0.mk (Kd.R_elder' (rk_ HO_245001.out) (Kd.R_base ho0) hb)
                          have n3_ := Aside0.mk (Kd.R_elder' (rk_ HO260.out) (Kd.R_base ho0) hb)
                          have n4_ := Aside0.mk (Kd.R_lower (Kd.R_new' (Kd.R_new' (Kd.R_new' (Kd.R_new' ho0 (Kd.R_lt (rk_ HO_230001.out))) (Kd.R_lt (rk_ HO_235001.out))) (Kd.R_lt (rk_ HO_245001.out))) (Kd.R_lt (rk_ HO260.out))) (below_size (hbg_)))
                          have n5_ := bb_ BK213 hb
                          have n6_ := bb_ BK214 hb
                          have n7_ := bb_ BK229 hb
                          have n8_ := bb_ BK234 hb
                          have n9_ := bb_ BK244 hb
                          have n10_ := bb_ BK270 hb
                          have n11_ := Aside0.mk (below_step (hbg_) hb)
                          clear HO_230001
                          clear HO_235001
                          clear HO_245001
                          clear HO260
                          clear BK213
                          clear BK214
                          clear BK229
                          clear BK234
                          clear BK244
                          clear BK270
                          clear HB
                          have HO_230001 := n0_
                          have HO_235001 := n1_
                          have HO_245001 := n2_
                          have HO260 := n3_
                          have HO268 := n4_
                          have BK213 := n5_
                          have BK214 := n6_
                          have BK229 := n7_
                          have BK234 := n8_
                          have BK244 := n9_
                          have BK270 := n10_
                          have HB := n11_
                          clear n0_ n1_ n2_ n3_ n4_ n5_ n6_ n7_ n8_ n9_ n10_ n11_
                          (try clear hb)
                          (try clear hb2)
                          (try clear hk)
                          (try clear hi)
                          (try clear ho0)
                          refine hK.out _ _ ⟨(blk_cell BK213.out 0).trans rfl, (blk_cell BK213.out 1).trans rfl, (blk_cell BK214.out 0).trans rfl, (blk_cell BK214.out 1).trans rfl, (blk_cell BK214.out 2).trans rfl, (blk_cell BK214.out 3).trans rfl⟩ (fun hHeld => ?_)
                          clear hK K
                          refine norm_ (a' := ?_) ?_ ?_
                          rotate_left
                          · show Act.put _ (some 84) _ = _
                            simp only [Act.put, sA, sB, sC, i64_w, i32_w]
                            rfl
                          refine pure_ (i := 5) (N := some 79) (v := ?_) (a' := ?_) #[true, true, true, true, true, true, false, false, true, false, false] rfl rfl (any_of HT_.out (by kernel_rfl)) (fun _ _ _ h => h) (Or.inl ⟨by rfl, ?_⟩) ?_ ?_
                          rotate_left
                          · intro w'
                            go_simp
                            with_reducible rfl
                          rotate_left
                          · simp only [Act.put, sA, sB, sC, i64_w, i32_w]
                            rfl
                          refine pure_ (i := 6) (N := some 85) (v := ?_) (a' := ?_) #[true, true, true, true, true, true, true, false, true, false, false] rfl rfl (any_of HT_.out (by kernel_rfl)) (fun _ _ _ h => h) (Or.inl ⟨by rfl, ?_⟩) ?_ ?_
                          rotate_left
                          · intro w'
                            go_simp
                            with_reducible rfl
                          rotate_left
                          · simp only [Act.put, sA, sB, sC, i64_w, i32_w]
                            rfl
                          refine pure_ (i := 7) (N := some 86) (v := ?_) (a' := ?_) #[true, true, true, true, true, true, true, true, true, false, false] rfl rfl (any_of HT_.out (by kernel_rfl)) (fun _ _ _ h => h) (Or.inl ⟨by rfl, ?_⟩) ?_ ?_
                          rotate_left
                          · intro w'
                            go_simp
                            with_reducible rfl
                          rotate_left
                          · simp only [Act.put, sA, sB, sC, i64_w, i32_w]
                            rfl
                          exact norm_ (by simp only [putAll, Act.put, List.setIfInBounds_toArray, List.set_cons_zero, List.set_cons_succ]) (hCont (.slice Ao132 t258.length co132, v267, gb270) _ ⟨hHeld, (by (with_reducible repeat (first | apply Kd.R_alloc | apply Kd.R_drewN | apply Kd.R_drew)); exact Kd.R_mono HO260.out (fun _ hk => ⟨hk.2, ⟨hk.1.1.1.2, ⟨hk.1.1.2, hk.1.2⟩⟩⟩)), (by (with_reducible repeat (first | apply Kd.R_alloc | apply Kd.R_drewN | apply Kd.R_drew)); exact Kd.R_mono HO268.out (fun _ hk => ⟨hk.2, ⟨hk.1.1.1.2, ⟨hk.1.1.2, hk.1.2⟩⟩⟩)), (by (with_reducible repeat (first | apply Kd.R_alloc | apply Kd.R_drewN | apply Kd.R_drew)); exact Kd.R_mono HO_230001.out (fun _ hk => ⟨hk.1.2, ⟨hk.2, ⟨hk.1.1.1, hk.1.1.2⟩⟩⟩)), (by (with_reducible repeat (first | apply Kd.R_alloc | apply Kd.R_drewN | apply Kd.R_drew)); exact Kd.R_mono HO_235001.out (fun _ hk => ⟨hk.1.2, ⟨hk.2, ⟨hk.1.1.1, hk.1.1.2⟩⟩⟩)), (by (with_reducible repeat (first | apply Kd.R_alloc | apply Kd.R_drewN | apply Kd.R_drew)); exact Kd.R_mono HO_245001.out (fun _ hk => ⟨hk.1.2, ⟨hk.2, ⟨hk.1.1.1, hk.1.1.2⟩⟩⟩)), (bk_ BK213.out), (bk_ BK214.out), (bk_ BK229.out), (bk_ BK234.out), (bk_ BK244.out), (bk_ BK270.out), GW270.out, GE270.out, NB213_270.out, NB270_213.out, NB214_270.out, NB270_214.out, NB229_270.out, NB270_229.out, NB234_270.out, NB270_234.out, NB244_270.out, NB270_244.out, (hbg_)⟩)
                      rintro ⟨v259, v267, gb270⟩ w134 ⟨hS_, h0_, h1_, h2_, h3_, h4_, h5_, h6_, h7_, h8_, h9_, h10_, h11_, h12_, h13_, h14_, h15_, h16_, h17_, h18_, h19_, h20_, h21_, h22_, h23_⟩
                      have n0_ : Aside0 (Kd.R k39 39 w134 w.heap.size (fun k_ => some k_ ≠ (v267 : Value).ownBlock ∧ some k_ ≠ (.slice Ao30 t225.length co30 : Value).ownBlock ∧ some k_ ≠ (.slice Ao40 t252.length co40 : Value).ownBlock ∧ some k_ ≠ (.slice Ao48 t240.length co48 : Value).ownBlock) v259 t258) := ⟨h0_⟩
                      have n1_ : Aside0 (Kd.R k39 39 w134 w.heap.size (fun k_ => some k_ ≠ (v259 : Value).ownBlock ∧ some k_ ≠ (.slice Ao30 t225.length co30 : Value).ownBlock ∧ some k_ ≠ (.slice Ao40 t252.length co40 : Value).ownBlock ∧ some k_ ≠ (.slice Ao48 t240.length co48 : Value).ownBlock) v267 t266) := ⟨h1_⟩
                      have n2_ : Aside0 (Kd.R k39 39 w134 w.heap.size (fun k_ => some k_ ≠ (v259 : Value).ownBlock ∧ some k_ ≠ (v267 : Value).ownBlock ∧ some k_ ≠ (.slice Ao40 t252.length co40 : Value).ownBlock ∧ some k_ ≠ (.slice Ao48 t240.length co48 : Value).ownBlock) (.slice Ao30 t225.length co30) t225) := ⟨h2_⟩
                      have n3_ : Aside0 (Kd.R k39 39 w134 w.heap.size (fun k_ => some k_ ≠ (v259 : Value).ownBlock ∧ some k_ ≠ (v267 : Value).ownBlock ∧ some k_ ≠ (.slice Ao30 t225.length co30 : Value).ownBlock ∧ some k_ ≠ (.slice Ao48 t240.length co48 : Value).ownBlock) (.slice Ao40 t252.length co40) t252) := ⟨h3_⟩
                      have n4_ : Aside0 (Kd.R k39 39 w134 w.heap.size (fun k_ => some k_ ≠ (v259 : Value).ownBlock ∧ some k_ ≠ (v267 : Value).ownBlock ∧ some k_ ≠ (.slice Ao30 t225.length co30 : Value).ownBlock ∧ some k_ ≠ (.slice Ao40 t252.length co40 : Value).ownBlock) (.slice Ao48 t240.length co48) t255) := ⟨h4_⟩
                      have n5_ : Aside0 (w134.heap[gb213]? = some (.cells #[.int .i64 a0_0, .slice A0_1 l0_1.length c0_1] 24 (0, 0))) := ⟨h5_⟩
                      have n6_ : Aside0 (w134.heap[gb214]? = some (.cells #[.int .i64 a1_0, .int .i64 a1_1, .int .i64 a1_2, .int .i64 a1_3] 34 (0, 0))) := ⟨h6_⟩
                      have n7_ : Aside0 (w134.heap[gb229]? = some (.cells #[.int .i64 t224, .slice Ao30 t225.length co30] 29 (0, 0))) := ⟨h7_⟩
                      have n8_ : Aside0 (w134.heap[gb234]? = some (.cells #[.int .i64 t230, .slice Ao40 t252.length co40] 29 (0, 0))) := ⟨h8_⟩
                      have n9_ : Aside0 (w134.heap[gb244]? = some (.cells #[.int .i64 t239, .slice Ao48 t240.length co48] 29 (0, 0))) := ⟨h9_⟩
                      have n10_ : Aside0 (w134.heap[gb270]? = some (.cells #[.int .i64 0, .slice none 0 0] 29 (0, 0))) := ⟨h10_⟩
                      have n11_ : Aside0 (w.heap.size ≤ gb270) := ⟨h11_⟩
                      have n12_ : Aside0 (w.heap.size ≤ gb270) := ⟨h12_⟩
                      have n13_ : Aside0 (gb213 ≠ gb270) := ⟨h13_⟩
                      have n14_ : Aside0 (gb270 ≠ gb213) := ⟨h14_⟩
                      have n15_ : Aside0 (gb214 ≠ gb270) := ⟨h15_⟩
                      have n16_ : Aside0 (gb270 ≠ gb214) := ⟨h16_⟩
                      have n17_ : Aside0 (gb229 ≠ gb270) := ⟨h17_⟩
                      have n18_ : Aside0 (gb270 ≠ gb229) := ⟨h18_⟩
                      have n19_ : Aside0 (gb234 ≠ gb270) := ⟨h19_⟩
                      have n20_ : Aside0 (gb270 ≠ gb234) := ⟨h20_⟩
                      have n21_ : Aside0 (gb244 ≠ gb270) := ⟨h21_⟩
                      have n22_ : Aside0 (gb270 ≠ gb244) := ⟨h22_⟩
                      have n23_ : Aside0 (Below w.heap.size w w134) := ⟨h23_⟩
                      clear HO_230001
                      clear HO_235001
                      clear HO_245001
                      clear BK213
                      clear BK214
                      clear BK229
                      clear BK234
                      clear BK244
                      clear HB
                      clear h0_ h1_ h2_ h3_ h4_ h5_ h6_ h7_ h8_ h9_ h10_ h11_ h12_ h13_ h14_ h15_ h16_ h17_ h18_ h19_ h20_ h21_ h22_ h23_
                      have HO260 := n0_
                      have HO268 := n1_
                      have HO_230001 := n2_
                      have HO_235001 := n3_
                      have HO_245001 := n4_
                      have BK213 := n5_
                      have BK214 := n6_
                      have BK229 := n7_
                      have BK234 := n8_
                      have BK244 := n9_
                      have BK270 := n10_
                      have GW270 := n11_
                      have GE270 := n12_
                      have NB213_270 := n13_
                      have NB270_213 := n14_
                      have NB214_270 := n15_
                      have NB270_214 := n16_
                      have NB229_270 := n17_
                      have NB270_229 := n18_
                      have NB234_270 := n19_
                      have NB270_234 := n20_
                      have NB244_270 := n21_
                      have NB270_244 := n22_
                      have HB := n23_
                      clear n0_ n1_ n2_ n3_ n4_ n5_ n6_ n7_ n8_ n9_ n10_ n11_ n12_ n13_ n14_ n15_ n16_ n17_ n18_ n19_ n20_ n21_ n22_ n23_
                      have hHeld : w134.cell? ⟨gb213, 0, none⟩ = some (.int .i64 a0_0) ∧ w134.cell? ⟨gb213, 1, none⟩ = some (.slice A0_1 l0_1.length c0_1) ∧ w134.cell? ⟨gb214, 0, none⟩ = some (.int .i64 a1_0) ∧ w134.cell? ⟨gb214, 1, none⟩ = some (.int .i64 a1_1) ∧ w134.cell? ⟨gb214, 2, none⟩ = some (.int .i64 a1_2) ∧ w134.cell? ⟨gb214, 3, none⟩ = some (.int .i64 a1_3) := hS_
                      obtain ⟨Ao136, co136, eo136⟩ := Kd.R_slice HO268.out
                      (first | subst eo136 | (injection eo136 with f1_ f2_ f3_; have f4_ := f1_.symm; have f5_ := f3_.symm; clear f1_ f2_ f3_; subst f4_; subst f5_))
                      refine norm_ (a' := ?_) ?_ ?_
                      rotate_left
                      · simp only [putAll, Act.put, List.setIfInBounds_toArray, List.set_cons_zero, List.set_cons_succ]
                        rfl
                      refine one_ (i := 9) (N := none) #[true, true, true, true, true, true, true, true, true, true, false] rfl rfl (one_of HT_.out (by kernel_rfl)) (by decide) (fun K hK => ?_)
                      have hs135 : w134.cell? ⟨gb270, 0, none⟩ = some (.int .i64 0) := (blk_cell BK270.out 0).trans rfl
                      have hfs135 := blk_frozen BK270.out 0
                      have hns135_0 := NB213_270.out
                      have hns135_1 := NB214_270.out
                      have hns135_2 := NB229_270.out
                      have hns135_3 := NB234_270.out
                      have hns135_4 := NB244_270.out
                      have hms135_0 := NB270_213.out
                      have hms135_1 := NB270_214.out
                      have hms135_2 := NB270_229.out
                      have hms135_3 := NB270_234.out
                      have hms135_4 := NB270_244.out
                      have hs137 : w134.cell? ⟨gb270, 1, none⟩ = some (.slice none 0 0) := (blk_cell BK270.out 1).trans rfl
                      have hfs137 := blk_frozen BK270.out 1
                      have hns137_0 := NB213_270.out
                      have hns137_1 := NB214_270.out
                      have hns137_2 := NB229_270.out
                      have hns137_3 := NB234_270.out
                      have hns137_4 := NB244_270.out
                      have hms137_0 := NB270_213.out
                      have hms137_1 := NB270_214.out
                      have hms137_2 := NB270_229.out
                      have hms137_3 := NB270_234.out
                      have hms137_4 := NB270_244.out
                      refine skip_ (w1 := ?_) (by rfl) rfl ?_ ?_
                      rotate_left
                      · go_simp
                        rfl
                      refine hK.out _ _ ⟨((cell_far (p := ⟨gb270, _, none⟩) NB213_270.out _).trans (((cell_far (p := ⟨gb270, _, none⟩) NB213_270.out _).trans (hHeld.1)))), ((cell_far (p := ⟨gb270, _, none⟩) NB213_270.out _).trans (((cell_far (p := ⟨gb270, _, none⟩) NB213_270.out _).trans (hHeld.2.1)))), ((cell_far (p := ⟨gb270, _, none⟩) NB214_270.out _).trans (((cell_far (p := ⟨gb270, _, none⟩) NB214_270.out _).trans (hHeld.2.2.1)))), ((cell_far (p := ⟨gb270, _, none⟩) NB214_270.out _).trans (((cell_far (p := ⟨gb270, _, none⟩) NB214_270.out _).trans (hHeld.2.2.2.1)))), ((cell_far (p := ⟨gb270, _, none⟩) NB214_270.out _).trans (((cell_far (p := ⟨gb270, _, none⟩) NB214_270.out _).trans (hHeld.2.2.2.2.1)))), ((cell_far (p := ⟨gb270, _, none⟩) NB214_270.out _).trans (((cell_far (p := ⟨gb270, _, none⟩) NB214_270.out _).trans (hHeld.2.2.2.2.2))))⟩ (fun hHeld => ?_)
                      clear hK K
                      refine pure_ (i := 10) (N := some 15) (v := ?_) (a' := ?_) #[true, true, true, true, true, true, true, true, true, true, true] rfl rfl (any_of HT_.out (by kernel_rfl)) (fun _ _ _ h => h) (Or.inl ⟨by rfl, ?_⟩) ?_ ?_
                      rotate_left
                      · intro w'
                        go_simp
                        with_reducible rfl
                      rotate_left
                      · simp only [Act.put, sA, sB, sC, i64_w, i32_w]
                        rfl
                      refine done_ (done_of HT_.out (by kernel_rfl)) ?_
                      go_upto_region 25 with (fail)
                      go_cut [95] (fun v95 wc => ∃ (kq : Nat) (x95_118 : Bool), v95 = .bool x95_118 ∧ Aside0 (laws_FnExactAddClue.j2 kq t254 x95_118 t239 t255 = some r) ∧ Aside0 (kq ≤ kj76) ∧ Aside0 (Kd.R k39 39 wc w.heap.size (fun k_ => some k_ ≠ ((.slice Ao40 t252.length co40) : Value).ownBlock ∧ some k_ ≠ ((.slice Ao48 t240.length co48) : Value).ownBlock ∧ some k_ ≠ ((.slice Ao136 t266.length co136) : Value).ownBlock) (.slice Ao30 t225.length co30) t225) ∧ Aside0 (Kd.R k39 39 wc w.heap.size (fun k_ => some k_ ≠ ((.slice Ao30 t225.length co30) : Value).ownBlock ∧ some k_ ≠ ((.slice Ao48 t240.length co48) : Value).ownBlock ∧ some k_ ≠ ((.slice Ao136 t266.length co136) : Value).ownBlock) (.slice Ao40 t252.length co40) t252) ∧ Aside0 (Kd.R k39 39 wc w.heap.size (fun k_ => some k_ ≠ ((.slice Ao30 t225.length co30) : Value).ownBlock ∧ some k_ ≠ ((.slice Ao40 t252.length co40) : Value).ownBlock ∧ some k_ ≠ ((.slice Ao136 t266.length co136) : Value).ownBlock) (.slice Ao48 t240.length co48) t255) ∧ Aside0 (Kd.R k39 39 wc w.heap.size (fun k_ => some k_ ≠ ((.slice Ao30 t225.length co30) : Value).ownBlock ∧ some k_ ≠ ((.slice Ao40 t252.length co40) : Value).ownBlock ∧ some k_ ≠ ((.slice Ao48 t240.length co48) : Value).ownBlock) (.slice Ao136 t266.length co136) t266) ∧ Aside0 (wc.heap[gb213]? = some (.cells #[.int .i64 a0_0, (.slice A0_1 l0_1.length c0_1)] 24 (0, 0))) ∧ Aside0 (wc.heap[gb214]? = some (.cells #[.int .i64 a1_0, .int .i64 a1_1, .int .i64 a1_2, .int .i64 a1_3] 34 (0, 0))) ∧ Aside0 (wc.heap[gb229]? = some (.cells #[.int .i64 t224, (.slice Ao30 t225.length co30)] 29 (0, 0))) ∧ Aside0 (wc.heap[gb234]? = some (.cells #[.int .i64 t230, (.slice Ao40 t252.length co40)] 29 (0, 0))) ∧ Aside0 (wc.heap[gb244]? = some (.cells #[.int .i64 t239, (.slice Ao48 t240.length co48)] 29 (0, 0))) ∧ Aside0 (wc.heap[gb270]? = some (.cells #[.int .i64 t265, (.slice Ao136 t266.length co136)] 29 (0, 0))) ∧ Aside0 (Below w.heap.size w wc))
                      case first =>
                        have H := HC119.out
                        clear HC119
                        replace H := Option.bind_eq_some_iff.mp H
                        obtain ⟨t271, A1380, H⟩ := H
                        replace H : (if t271 = true then (laws_FnExactAddClue.j2 kj76 t254 (t269 != t228) t239 t255) else (laws_FnExactAddClue.j2 kj76 t254 true t239 t255)) = some r := H
                        have A138 := Aside0.mk A1380
                        clear A1380
                        by_cases c139 : t271 = true
                        · subst c139
                          have H1 : (laws_FnExactAddClue.j2 kj76 t254 (t269 != t228) t239 t255) = some r := by rw [if_pos rfl] at H; exact H
                          clear H
                          have H := H1
                          clear H1
                          have H' := Aside0.mk H
                          clear H
                          have hnb140 := NB270_213.out
                          have hnc140 := NB213_270.out
                          have hnb141 := NB270_214.out
                          have hnc141 := NB214_270.out
                          have hnb142 := NB270_229.out
                          have hnc142 := NB229_270.out
                          have hnb143 := NB270_234.out
                          have hnc143 := NB234_270.out
                          have hnb144 := NB270_244.out
                          have hnc144 := NB244_270.out
                          have hcz145_0 : w134.cell? ⟨gb270, 0, none⟩ = some (.int .i64 0) := (blk_cell BK270.out 0).trans rfl
                          have hcz145_1 : w134.cell? ⟨gb270, 1, none⟩ = some (.slice none 0 0) := (blk_cell BK270.out 1).trans rfl
                          have hfz145_0 := blk_frozen BK270.out 0
                          have hfz145_1 := blk_frozen BK270.out 1
                          have hnb146 := NB229_213.out
                          have hnc146 := NB213_229.out
                          have hnb147 := NB229_214.out
                          have hnc147 := NB214_229.out
                          have hnb148 := NB229_234.out
                          have hnc148 := NB234_229.out
                          have hnb149 := NB229_244.out
                          have hnc149 := NB244_229.out
                          have hcz150_0 : w134.cell? ⟨gb229, 0, none⟩ = some (.int .i64 t224) := (blk_cell BK229.out 0).trans rfl
                          have hcz150_1 : w134.cell? ⟨gb229, 1, none⟩ = some (.slice Ao30 t225.length co30) := (blk_cell BK229.out 1).trans rfl
                          have hfz150_0 := blk_frozen BK229.out 0
                          have hfz150_1 := blk_frozen BK229.out 1
                          go_wp2_with (first | ((with_reducible refine gate_callee (f := 19) rfl ?_); refine goesL_ (some 89) rfl rfl Try.func19 (by kernel_rfl) rfl #[.agg #[.int .i64 t265, .slice Ao136 t266.length co136], .agg #[.int .i64 t224, .slice Ao30 t225.length co30]] rfl (by (try simp only [List.map_toArray, List.map_cons, List.map_nil]); first | done | rfl | (simp only [List.length_drop, List.length_take]; rfl)) ?_; (with_reducible refine (laws_eqPuzzle.calls kj76 t265 _ _ t266 t224 _ _ t225 true _ ?side1 ?side2 ?side3 ?side4 A138.out).mono ?_); (case side1 => refine (Kd.R_reads' (e := 39) (base := w.heap.size) (ok := fun k_ => (some k_ ≠ (v259 : Value).ownBlock ∧ (some k_ ≠ (.slice Ao30 t225.length co30 : Value).ownBlock ∧ (some k_ ≠ (.slice Ao40 t252.length co40 : Value).ownBlock ∧ some k_ ≠ (.slice Ao48 t240.length co48 : Value).ownBlock)))) (n := t266.length) (c := co136) ?_).2.2; exact (by (with_reducible repeat (first | apply Kd.R_alloc | apply Kd.R_drewN | apply Kd.R_drew)); exact (Kd.R_mono (Kd.R_far (p := ⟨gb270, 1, none⟩) (Kd.R_far (p := ⟨gb270, 0, none⟩) (Kd.R_types HO268.out BK270.out (by decide)) (fun _ hk => hk.2) (.int .i64 t265)) (fun _ hk => hk.2) (.slice Ao136 t266.length co136)) (fun _ h_ => h_.1)))); (case side2 => exact (Kd.R_reads' HO268.out).2.1); (case side3 => refine (Kd.R_reads' (e := 39) (base := w.heap.size) (ok := fun k_ => (some k_ ≠ (v259 : Value).ownBlock ∧ (some k_ ≠ (.slice Ao136 t266.length co136 : Value).ownBlock ∧ (some k_ ≠ (.slice Ao40 t252.length co40 : Value).ownBlock ∧ some k_ ≠ (.slice Ao48 t240.length co48 : Value).ownBlock)))) (n := t225.length) (c := co30) ?_).2.2; exact (by (with_reducible repeat (first | apply Kd.R_alloc | apply Kd.R_drewN | apply Kd.R_drew)); exact (Kd.R_mono (Kd.R_far (p := ⟨gb270, 1, none⟩) (Kd.R_far (p := ⟨gb270, 0, none⟩) (Kd.R_types HO_230001.out BK270.out (by decide)) (fun _ hk => hk.2) (.int .i64 t265)) (fun _ hk => hk.2) (.slice Ao136 t266.length co136)) (fun _ h_ => h_.1)))); (case side4 => exact (Kd.R_reads' HO_230001.out).2.1); rintro e w151 ⟨rfl, hb⟩; refine ⟨_, rfl, ?_⟩; have n0_ := Aside0.mk (Kd.R_below (by (with_reducible repeat (first | apply Kd.R_alloc | apply Kd.R_drewN | apply Kd.R_drew)); exact (Kd.R_mono (Kd.R_far (p := ⟨gb270, 1, none⟩) (Kd.R_far (p := ⟨gb270, 0, none⟩) (Kd.R_types HO_230001.out BK270.out (by decide)) (fun _ hk => hk.2) (.int .i64 t265)) (fun _ hk => hk.2) (.slice Ao136 t266.length co136)) (fun _ h_ => h_.1))) hb); have n1_ := Aside0.mk (Kd.R_below (by (with_reducible repeat (first | apply Kd.R_alloc | apply Kd.R_drewN | apply Kd.R_drew)); exact (Kd.R_mono (Kd.R_far (p := ⟨gb270, 1, none⟩) (Kd.R_far (p := ⟨gb270, 0, none⟩) (Kd.R_types HO_235001.out BK270.out (by decide)) (fun _ hk => hk.2) (.int .i64 t265)) (fun _ hk => hk.2) (.slice Ao136 t266.length co136)) (fun _ h_ => h_.1))) hb); have n2_ := Aside0.mk (Kd.R_below (by (with_reducible repeat (first | apply Kd.R_alloc | apply Kd.R_drewN | apply Kd.R_drew)); exact (Kd.R_mono (Kd.R_far (p := ⟨gb270, 1, none⟩) (Kd.R_far (p := ⟨gb270, 0, none⟩) (Kd.R_types HO_245001.out BK270.out (by decide)) (fun _ hk => hk.2) (.int .i64 t265)) (fun _ hk => hk.2) (.slice Ao136 t266.length co136)) (fun _ h_ => h_.1))) hb); have n3_ := Aside0.mk (Kd.R_below (by (with_reducible repeat (first | apply Kd.R_alloc | apply Kd.R_drewN | apply Kd.R_drew)); exact (Kd.R_mono (Kd.R_far (p := ⟨gb270, 1, none⟩) (Kd.R_far (p := ⟨gb270, 0, none⟩) (Kd.R_types HO260.out BK270.out (by decide)) (fun _ hk => hk.2) (.int .i64 t265)) (fun _ hk => hk.2) (.slice Ao136 t266.length co136)) (fun _ h_ => h_.1))) hb); have n4_ := Aside0.mk (Kd.R_below (by (with_reducible repeat (first | apply Kd.R_alloc | apply Kd.R_drewN | apply Kd.R_drew)); exact (Kd.R_mono (Kd.R_far (p := ⟨gb270, 1, none⟩) (Kd.R_far (p := ⟨gb270, 0, none⟩) (Kd.R_types HO268.out BK270.out (by decide)) (fun _ hk => hk.2) (.int .i64 t265)) (fun _ hk => hk.2) (.slice Ao136 t266.length co136)) (fun _ h_ => h_.1))) hb); have n5_ := Aside0.mk (blk_below (g := gb213) (o := .cells #[.int .i64 a0_0, .slice A0_1 l0_1.length c0_1] 24 (0, 0)) (bf2_ BK213 NB213_270) hb); have n6_ := Aside0.mk (blk_below (g := gb214) (o := .cells #[.int .i64 a1_0, .int .i64 a1_1, .int .i64 a1_2, .int .i64 a1_3] 34 (0, 0)) (bf2_ BK214 NB214_270) hb); have n7_ := Aside0.mk (blk_below (g := gb229) (o := .cells #[.int .i64 t224, .slice Ao30 t225.length co30] 29 (0, 0)) (bf2_ BK229 NB229_270) hb); have n8_ := Aside0.mk (blk_below (g := gb234) (o := .cells #[.int .i64 t230, .slice Ao40 t252.length co40] 29 (0, 0)) (bf2_ BK234 NB234_270) hb); have n9_ := Aside0.mk (blk_below (g := gb244) (o := .cells #[.int .i64 t239, .slice Ao48 t240.length co48] 29 (0, 0)) (bf2_ BK244 NB244_270) hb); have n10_ := Aside0.mk (blk_below (g := gb270) (o := .cells #[.int .i64 t265, .slice Ao136 t266.length co136] 29 (0, 0)) (by (with_reducible repeat (first | refine blk_drewN ?_ _ | refine blk_drew ?_ | refine blk_alloc ?_ _)); refine blk_put (cs := #[.int .i64 t265, .slice none 0 0]) ?_ 1 _ rfl; (with_reducible repeat (first | refine blk_drewN ?_ _ | refine blk_drew ?_ | refine blk_alloc ?_ _)); refine blk_put (cs := #[.int .i64 0, .slice none 0 0]) ?_ 0 _ rfl; (with_reducible repeat (first | refine blk_drewN ?_ _ | refine blk_drew ?_ | refine blk_alloc ?_ _)); exact BK270.out) hb); have n11_ := Aside0.mk (below_step (hbg_) hb); clear HO_230001; clear HO_235001; clear HO_245001; clear HO260; clear HO268; clear BK213; clear BK214; clear BK229; clear BK234; clear BK244; clear BK270; clear HB; have HO_230001 := n0_; have HO_235001 := n1_; have HO_245001 := n2_; have HO260 := n3_; have HO268 := n4_; have BK213 := n5_; have BK214 := n6_; have BK229 := n7_; have BK234 := n8_; have BK244 := n9_; have BK270 := n10_; have HB := n11_; clear n0_ n1_ n2_ n3_ n4_ n5_ n6_ n7_ n8_ n9_ n10_ n11_; (try clear hb); (try clear hb2); (try clear hk); (try clear hi)))
                          go_meet
                          case rel => exact ⟨_, ((t269 != t228)), (by first | rfl | (simp; done) | (simp [*]; done)), H', ⟨by have := HJ15.out; have := HJ76.out; first | omega | exact Nat.le_refl _⟩, ⟨by (try simp only [hl235001_76]); (with_reducible repeat (first | apply Kd.R_alloc | apply Kd.R_drewN | apply Kd.R_drew)); exact Kd.R_mono HO_230001.out (fun _ hk => ⟨hk.2.2.1, ⟨hk.2.2.2, hk.2.1⟩⟩)⟩, ⟨by (try simp only [hl235001_76]); (with_reducible repeat (first | apply Kd.R_alloc | apply Kd.R_drewN | apply Kd.R_drew)); exact Kd.R_mono HO_235001.out (fun _ hk => ⟨hk.2.2.1, ⟨hk.2.2.2, hk.2.1⟩⟩)⟩, ⟨by (try simp only [hl235001_76]); (with_reducible repeat (first | apply Kd.R_alloc | apply Kd.R_drewN | apply Kd.R_drew)); exact Kd.R_mono HO_245001.out (fun _ hk => ⟨hk.2.2.1, ⟨hk.2.2.2, hk.2.1⟩⟩)⟩, ⟨by (try simp only [hl235001_76]); (with_reducible repeat (first | apply Kd.R_alloc | apply Kd.R_drewN | apply Kd.R_drew)); exact Kd.R_mono HO268.out (fun _ hk => ⟨hk.2.1, ⟨hk.2.2.1, hk.2.2.2⟩⟩)⟩, ⟨by (try simp only [hl235001_76]); (with_reducible repeat (first | refine blk_drewN ?_ _ | refine blk_drew ?_ | refine blk_alloc ?_ _)); exact BK213.out⟩, ⟨by (try simp only [hl235001_76]); (with_reducible repeat (first | refine blk_drewN ?_ _ | refine blk_drew ?_ | refine blk_alloc ?_ _)); exact BK214.out⟩, ⟨by (try simp only [hl235001_76]); (with_reducible repeat (first | refine blk_drewN ?_ _ | refine blk_drew ?_ | refine blk_alloc ?_ _)); exact BK229.out⟩, ⟨by (try simp only [hl235001_76]); (with_reducible repeat (first | refine blk_drewN ?_ _ | refine blk_drew ?_ | refine blk_alloc ?_ _)); exact BK234.out⟩, ⟨by (try simp only [hl235001_76]); (with_reducible repeat (first | refine blk_drewN ?_ _ | refine blk_drew ?_ | refine blk_alloc ?_ _)); exact BK244.out⟩, ⟨by (try simp only [hl235001_76]); (with_reducible repeat (first | refine blk_drewN ?_ _ | refine blk_drew ?_ | refine blk_alloc ?_ _)); exact BK270.out⟩, ⟨hbg_⟩⟩
                        · replace c139 := Bool.eq_false_iff.mpr c139
                          subst c139
                          have H1 : (laws_FnExactAddClue.j2 kj76 t254 true t239 t255) = some r := by rw [if_neg (show ¬ (false = true) by decide)] at H; exact H
                          clear H
                          have H := H1
                          clear H1
                          have H' := Aside0.mk H
                          clear H
                          have hnb152 := NB270_213.out
                          have hnc152 := NB213_270.out
                          have hnb153 := NB270_214.out
                          have hnc153 := NB214_270.out
                          have hnb154 := NB270_229.out
                          have hnc154 := NB229_270.out
                          have hnb155 := NB270_234.out
                          have hnc155 := NB234_270.out
                          have hnb156 := NB270_244.out
                          have hnc156 := NB244_270.out
                          have hcz157_0 : w134.cell? ⟨gb270, 0, none⟩ = some (.int .i64 0) := (blk_cell BK270.out 0).trans rfl
                          have hcz157_1 : w134.cell? ⟨gb270, 1, none⟩ = some (.slice none 0 0) := (blk_cell BK270.out 1).trans rfl
                          have hfz157_0 := blk_frozen BK270.out 0
                          have hfz157_1 := blk_frozen BK270.out 1
                          have hnb158 := NB229_213.out
                          have hnc158 := NB213_229.out
                          have hnb159 := NB229_214.out
                          have hnc159 := NB214_229.out
                          have hnb160 := NB229_234.out
                          have hnc160 := NB234_229.out
                          have hnb161 := NB229_244.out
                          have hnc161 := NB244_229.out
                          have hcz162_0 : w134.cell? ⟨gb229, 0, none⟩ = some (.int .i64 t224) := (blk_cell BK229.out 0).trans rfl
                          have hcz162_1 : w134.cell? ⟨gb229, 1, none⟩ = some (.slice Ao30 t225.length co30) := (blk_cell BK229.out 1).trans rfl
                          have hfz162_0 := blk_frozen BK229.out 0
                          have hfz162_1 := blk_frozen BK229.out 1
                          go_wp2_with (first | ((with_reducible refine gate_callee (f := 19) rfl ?_); refine goesL_ (some 89) rfl rfl Try.func19 (by kernel_rfl) rfl #[.agg #[.int .i64 t265, .slice Ao136 t266.length co136], .agg #[.int .i64 t224, .slice Ao30 t225.length co30]] rfl (by (try simp only [List.map_toArray, List.map_cons, List.map_nil]); first | done | rfl | (simp only [List.length_drop, List.length_take]; rfl)) ?_; (with_reducible refine (laws_eqPuzzle.calls kj76 t265 _ _ t266 t224 _ _ t225 false _ ?side1 ?side2 ?side3 ?side4 A138.out).mono ?_); (case side1 => refine (Kd.R_reads' (e := 39) (base := w.heap.size) (ok := fun k_ => (some k_ ≠ (v259 : Value).ownBlock ∧ (some k_ ≠ (.slice Ao30 t225.length co30 : Value).ownBlock ∧ (some k_ ≠ (.slice Ao40 t252.length co40 : Value).ownBlock ∧ some k_ ≠ (.slice Ao48 t240.length co48 : Value).ownBlock)))) (n := t266.length) (c := co136) ?_).2.2; exact (by (with_reducible repeat (first | apply Kd.R_alloc | apply Kd.R_drewN | apply Kd.R_drew)); exact (Kd.R_mono (Kd.R_far (p := ⟨gb270, 1, none⟩) (Kd.R_far (p := ⟨gb270, 0, none⟩) (Kd.R_types HO268.out BK270.out (by decide)) (fun _ hk => hk.2) (.int .i64 t265)) (fun _ hk => hk.2) (.slice Ao136 t266.length co136)) (fun _ h_ => h_.1)))); (case side2 => exact (Kd.R_reads' HO268.out).2.1); (case side3 => refine (Kd.R_reads' (e := 39) (base := w.heap.size) (ok := fun k_ => (some k_ ≠ (v259 : Value).ownBlock ∧ (some k_ ≠ (.slice Ao136 t266.length co136 : Value).ownBlock ∧ (some k_ ≠ (.slice Ao40 t252.length co40 : Value).ownBlock ∧ some k_ ≠ (.slice Ao48 t240.length co48 : Value).ownBlock)))) (n := t225.length) (c := co30) ?_).2.2; exact (by (with_reducible repeat (first | apply Kd.R_alloc | apply Kd.R_drewN | apply Kd.R_drew)); exact (Kd.R_mono (Kd.R_far (p := ⟨gb270, 1, none⟩) (Kd.R_far (p := ⟨gb270, 0, none⟩) (Kd.R_types HO_230001.out BK270.out (by decide)) (fun _ hk => hk.2) (.int .i64 t265)) (fun _ hk => hk.2) (.slice Ao136 t266.length co136)) (fun _ h_ => h_.1)))); (case side4 => exact (Kd.R_reads' HO_230001.out).2.1); rintro e w163 ⟨rfl, hb⟩; refine ⟨_, rfl, ?_⟩; have n0_ := Aside0.mk (Kd.R_below (by (with_reducible repeat (first | apply Kd.R_alloc | apply Kd.R_drewN | apply Kd.R_drew)); exact (Kd.R_mono (Kd.R_far (p := ⟨gb270, 1, none⟩) (Kd.R_far (p := ⟨gb270, 0, none⟩) (Kd.R_types HO_230001.out BK270.out (by decide)) (fun _ hk => hk.2) (.int .i64 t265)) (fun _ hk => hk.2) (.slice Ao136 t266.length co136)) (fun _ h_ => h_.1))) hb); have n1_ := Aside0.mk (Kd.R_below (by (with_reducible repeat (first | apply Kd.R_alloc | apply Kd.R_drewN | apply Kd.R_drew)); exact (Kd.R_mono (Kd.R_far (p := ⟨gb270, 1, none⟩) (Kd.R_far (p := ⟨gb270, 0, none⟩) (Kd.R_types HO_235001.out BK270.out (by decide)) (fun _ hk => hk.2) (.int .i64 t265)) (fun _ hk => hk.2) (.slice Ao136 t266.length co136)) (fun _ h_ => h_.1))) hb); have n2_ := Aside0.mk (Kd.R_below (by (with_reducible repeat (first | apply Kd.R_alloc | apply Kd.R_drewN | apply Kd.R_drew)); exact (Kd.R_mono (Kd.R_far (p := ⟨gb270, 1, none⟩) (Kd.R_far (p := ⟨gb270, 0, none⟩) (Kd.R_types HO_245001.out BK270.out (by decide)) (fun _ hk => hk.2) (.int .i64 t265)) (fun _ hk => hk.2) (.slice Ao136 t266.length co136)) (fun _ h_ => h_.1))) hb); have n3_ := Aside0.mk (Kd.R_below (by (with_reducible repeat (first | apply Kd.R_alloc | apply Kd.R_drewN | apply Kd.R_drew)); exact (Kd.R_mono (Kd.R_far (p := ⟨gb270, 1, none⟩) (Kd.R_far (p := ⟨gb270, 0, none⟩) (Kd.R_types HO260.out BK270.out (by decide)) (fun _ hk => hk.2) (.int .i64 t265)) (fun _ hk => hk.2) (.slice Ao136 t266.length co136)) (fun _ h_ => h_.1))) hb); have n4_ := Aside0.mk (Kd.R_below (by (with_reducible repeat (first | apply Kd.R_alloc | apply Kd.R_drewN | apply Kd.R_drew)); exact (Kd.R_mono (Kd.R_far (p := ⟨gb270, 1, none⟩) (Kd.R_far (p := ⟨gb270, 0, none⟩) (Kd.R_types HO268.out BK270.out (by decide)) (fun _ hk => hk.2) (.int .i64 t265)) (fun _ hk => hk.2) (.slice Ao136 t266.length co136)) (fun _ h_ => h_.1))) hb); have n5_ := Aside0.mk (blk_below (g := gb213) (o := .cells #[.int .i64 a0_0, .slice A0_1 l0_1.length c0_1] 24 (0, 0)) (bf2_ BK213 NB213_270) hb); have n6_ := Aside0.mk (blk_below (g := gb214) (o := .cells #[.int .i64 a1_0, .int .i64 a1_1, .int .i64 a1_2, .int .i64 a1_3] 34 (0, 0)) (bf2_ BK214 NB214_270) hb); have n7_ := Aside0.mk (blk_below (g := gb229) (o := .cells #[.int .i64 t224, .slice Ao30 t225.length co30] 29 (0, 0)) (bf2_ BK229 NB229_270) hb); have n8_ := Aside0.mk (blk_below (g := gb234) (o := .cells #[.int .i64 t230, .slice Ao40 t252.length co40] 29 (0, 0)) (bf2_ BK234 NB234_270) hb); have n9_ := Aside0.mk (blk_below (g := gb244) (o := .cells #[.int .i64 t239, .slice Ao48 t240.length co48] 29 (0, 0)) (bf2_ BK244 NB244_270) hb); have n10_ := Aside0.mk (blk_below (g := gb270) (o := .cells #[.int .i64 t265, .slice Ao136 t266.length co136] 29 (0, 0)) (by (with_reducible repeat (first | refine blk_drewN ?_ _ | refine blk_drew ?_ | refine blk_alloc ?_ _)); refine blk_put (cs := #[.int .i64 t265, .slice none 0 0]) ?_ 1 _ rfl; (with_reducible repeat (first | refine blk_drewN ?_ _ | refine blk_drew ?_ | refine blk_alloc ?_ _)); refine blk_put (cs := #[.int .i64 0, .slice none 0 0]) ?_ 0 _ rfl; (with_reducible repeat (first | refine blk_drewN ?_ _ | refine blk_drew ?_ | refine blk_alloc ?_ _)); exact BK270.out) hb); have n11_ := Aside0.mk (below_step (hbg_) hb); clear HO_230001; clear HO_235001; clear HO_245001; clear HO260; clear HO268; clear BK213; clear BK214; clear BK229; clear BK234; clear BK244; clear BK270; clear HB; have HO_230001 := n0_; have HO_235001 := n1_; have HO_245001 := n2_; have HO260 := n3_; have HO268 := n4_; have BK213 := n5_; have BK214 := n6_; have BK229 := n7_; have BK234 := n8_; have BK244 := n9_; have BK270 := n10_; have HB := n11_; clear n0_ n1_ n2_ n3_ n4_ n5_ n6_ n7_ n8_ n9_ n10_ n11_; (try clear hb); (try clear hb2); (try clear hk); (try clear hi)))
                          go_meet
                          case rel => exact ⟨_, (true), (by first | rfl | (simp; done) | (simp [*]; done)), H', ⟨by have := HJ15.out; have := HJ76.out; first | omega | exact Nat.le_refl _⟩, ⟨by (try simp only [hl235001_76]); (with_reducible repeat (first | apply Kd.R_alloc | apply Kd.R_drewN | apply Kd.R_drew)); exact Kd.R_mono HO_230001.out (fun _ hk => ⟨hk.2.2.1, ⟨hk.2.2.2, hk.2.1⟩⟩)⟩, ⟨by (try simp only [hl235001_76]); (with_reducible repeat (first | apply Kd.R_alloc | apply Kd.R_drewN | apply Kd.R_drew)); exact Kd.R_mono HO_235001.out (fun _ hk => ⟨hk.2.2.1, ⟨hk.2.2.2, hk.2.1⟩⟩)⟩, ⟨by (try simp only [hl235001_76]); (with_reducible repeat (first | apply Kd.R_alloc | apply Kd.R_drewN | apply Kd.R_drew)); exact Kd.R_mono HO_245001.out (fun _ hk => ⟨hk.2.2.1, ⟨hk.2.2.2, hk.2.1⟩⟩)⟩, ⟨by (try simp only [hl235001_76]); (with_reducible repeat (first | apply Kd.R_alloc | apply Kd.R_drewN | apply Kd.R_drew)); exact Kd.R_mono HO268.out (fun _ hk => ⟨hk.2.1, ⟨hk.2.2.1, hk.2.2.2⟩⟩)⟩, ⟨by (try simp only [hl235001_76]); (with_reducible repeat (first | refine blk_drewN ?_ _ | refine blk_drew ?_ | refine blk_alloc ?_ _)); exact BK213.out⟩, ⟨by (try simp only [hl235001_76]); (with_reducible repeat (first | refine blk_drewN ?_ _ | refine blk_drew ?_ | refine blk_alloc ?_ _)); exact BK214.out⟩, ⟨by (try simp only [hl235001_76]); (with_reducible repeat (first | refine blk_drewN ?_ _ | refine blk_drew ?_ | refine blk_alloc ?_ _)); exact BK229.out⟩, ⟨by (try simp only [hl235001_76]); (with_reducible repeat (first | refine blk_drewN ?_ _ | refine blk_drew ?_ | refine blk_alloc ?_ _)); exact BK234.out⟩, ⟨by (try simp only [hl235001_76]); (with_reducible repeat (first | refine blk_drewN ?_ _ | refine blk_drew ?_ | refine blk_alloc ?_ _)); exact BK244.out⟩, ⟨by (try simp only [hl235001_76]); (with_reducible repeat (first | refine blk_drewN ?_ _ | refine blk_drew ?_ | refine blk_alloc ?_ _)); exact BK270.out⟩, ⟨hbg_⟩⟩
                      case rest =>
                        clear HC119
                        try clear c1
                        try clear c2
                        try clear p2
                        try clear c13
                        try clear c14
                        try clear c15
                        try clear c16
                        try clear c17
                        try clear c19
                        try clear c21
                        try clear c25
                        try clear c139
                        try clear c140
                        try clear c141
                        try clear c142
                        try clear c143
                        try clear c144
                        try clear c146
                        try clear c147
                        try clear c148
                        try clear c149
                        try clear c152
                        try clear c153
                        try clear c154
                        try clear c155
                        try clear c156
                        try clear c158
                        try clear c159
                        try clear c160
                        try clear c161
                        try clear hcz145_0
                        try clear hcz145_1
                        try clear hcz150_0
                        try clear hcz150_1
                        try clear hcz157_0
                        try clear hcz157_1
                        try clear hcz162_0
                        try clear hcz162_1
                        try clear hfz145_0
                        try clear hfz145_1
                        try clear hfz150_0
                        try clear hfz150_1
                        try clear hfz157_0
                        try clear hfz157_1
                        try clear hfz162_0
                        try clear hfz162_1
                        obtain ⟨kq, x95_118, rfl, HA, HJ118, HO_230001, HO_235001, HO_245001, HO_271001, BK213, BK214, BK229, BK234, BK244, BK270, HB⟩ := hcut
                        have hl245001_118 := (Kd.R_reads' HO_245001.out).1
                        rw [hl245001_118] at HO_245001
                        (try simp only [hl245001_118])
                        (try simp only [hl245001_118] at BK213)
                        (try simp only [hl245001_118] at BK214)
                        (try simp only [hl245001_118] at BK229)
                        (try simp only [hl245001_118] at BK234)
                        (try simp only [hl245001_118] at BK244)
                        (try simp only [hl245001_118] at BK270)
                        (try simp only [hl245001_118] at HO_230001)
                        (try simp only [hl245001_118] at HO_235001)
                        (try simp only [hl245001_118] at HO_271001)
                        cases kq with
                        | zero => exact absurd HA.out (by simp [laws_FnExactAddClue.j2])
                        | succ kj118 =>
                          have H := HA.out
                          clear HA
                          simp only [laws_FnExactAddClue.j2] at H
                          by_cases c164 : x95_118 = true
                          · subst c164
                            have H1 : (some false) = some r := by rw [if_pos rfl] at H; exact H
                            clear H
                            have H := H1
                            clear H1
                            exact absurd (Option.some.inj H) (by rw [hr_]; decide)
                          · replace c164 := Bool.eq_false_iff.mpr c164
                            subst c164
                            have H1 : ((laws_heldPuzzle.f kj118 t239 t255 1).bind fun t272 => (if t272 < 0 then (some false) else (if t272 = t254 then (some true) else (some false)))) = some r := by rw [if_neg (show ¬ (false = true) by decide)] at H; exact H
                            clear H
                            have H := H1
                            clear H1
                            replace H := Option.bind_eq_some_iff.mp H
                            obtain ⟨t272, A1650, H⟩ := H
                            replace H : (if t272 < 0 then (some false) else (if t272 = t254 then (some true) else (some false))) = some r := H
                            have A165 := Aside0.mk A1650
                            clear A1650
                            by_cases c166 : t272 < 0
                            · rw [if_pos c166] at H
                              have c166b0 : decide (t272 < 0) = true := decide_eq_true c166
                              clear c166
                              exact absurd (Option.some.inj H) (by rw [hr_]; decide)
                            · rw [if_neg c166] at H
                              have c166b0 : decide (t272 < 0) = false := decide_eq_false c166
                              clear c166
                              by_cases c167 : t272 = t254
                              · rw [if_pos c167] at H
                                have c167b0 : (t272 == t254) = true := beq_iff_eq.mpr c167
                                have c167b1 : (t272 != t254) = false := bne_eq_false_iff_eq.mpr c167
                                clear c167
                                obtain rfl := Option.some.inj H
                                have hnb168 := NB244_213.out
                                have hnc168 := NB213_244.out
                                have hnb169 := NB244_214.out
                                have hnc169 := NB214_244.out
                                have hnb170 := NB244_229.out
                                have hnc170 := NB229_244.out
                                have hnb171 := NB244_234.out
                                have hnc171 := NB234_244.out
                                have hnb172 := NB244_270.out
                                have hnc172 := NB270_244.out
                                have hcz173_0 : wc.cell? ⟨gb244, 0, none⟩ = some (.int .i64 t239) := (blk_cell BK244.out 0).trans rfl
                                have hcz173_1 : wc.cell? ⟨gb244, 1, none⟩ = some (.slice Ao48 t255.length co48) := (blk_cell BK244.out 1).trans rfl
                                have hfz173_0 := blk_frozen BK244.out 0
                                have hfz173_1 := blk_frozen BK244.out 1
                                go_wp2_with (first | ((with_reducible refine gate_callee (f := 27) rfl ?_); refine goesL_ (some 98) rfl rfl Try.func27 (by kernel_rfl) rfl #[.agg #[.int .i64 t239, .slice Ao48 t255.length co48], .int .i64 1] rfl (by (try simp only [List.map_toArray, List.map_cons, List.map_nil]); first | done | rfl | (simp only [List.length_drop, List.length_take]; rfl)) ?_; (with_reducible refine (laws_heldPuzzle.calls kj118 t239 _ _ t255 1 t272 _ ?side1 ?side2 A165.out).mono ?_); (case side1 => repeat (first | exact (Kd.R_reads' HO_245001.out).2.2 | (with_reducible refine Kd.C_alloc ?_ _) | (with_reducible refine Kd.C_drewN ?_ _) | (with_reducible refine Kd.C_drew ?_))); (case side2 => exact (Kd.R_reads' HO_245001.out).2.1); rintro e w174 ⟨rfl, hb⟩; refine ⟨_, rfl, ?_⟩; have n0_ := Aside0.mk (Kd.R_below (rk_ HO_230001.out) hb); have n1_ := Aside0.mk (Kd.R_below (rk_ HO_235001.out) hb); have n2_ := Aside0.mk (Kd.R_below (rk_ HO_245001.out) hb); have n3_ := Aside0.mk (Kd.R_below (rk_ HO_271001.out) hb); have n4_ := bb_ BK213 hb; have n5_ := bb_ BK214 hb; have n6_ := bb_ BK229 hb; have n7_ := bb_ BK234 hb; have n8_ := bb_ BK244 hb; have n9_ := bb_ BK270 hb; have n10_ := Aside0.mk (below_step (hbg_) hb); clear HO_230001; clear HO_235001; clear HO_245001; clear HO_271001; clear BK213; clear BK214; clear BK229; clear BK234; clear BK244; clear BK270; clear HB; have HO_230001 := n0_; have HO_235001 := n1_; have HO_245001 := n2_; have HO_271001 := n3_; have BK213 := n4_; have BK214 := n5_; have BK229 := n6_; have BK234 := n7_; have BK244 := n8_; have BK270 := n9_; have HB := n10_; clear n0_ n1_ n2_ n3_ n4_ n5_ n6_ n7_ n8_ n9_ n10_; (try clear hb); (try clear hb2); (try clear hk); (try clear hi)))
                                go_ret
                                exact ⟨by first | rfl | (simp [errW_none, errW_some] <;> rfl) | (simp [*, errW_none, errW_some] <;> rfl), hbg_⟩
                              · rw [if_neg c167] at H
                                have c167b0 : (t272 == t254) = false := beq_eq_false_iff_ne.mpr c167
                                have c167b1 : (t272 != t254) = true := bne_iff_ne.mpr c167
                                exact absurd (Option.some.inj H) (by rw [hr_]; decide)
                    · rw [if_neg c115] at H
                      have c115b0 : (t256 == t254) = false := beq_eq_false_iff_ne.mpr c115
                      have c115b1 : (t256 != t254) = true := bne_iff_ne.mpr c115
                      exact absurd (Option.some.inj H) (by rw [hr_]; decide)
          · replace c75 := Bool.eq_false_iff.mpr c75
            subst c75
            have H1 : (some false) = some r := by rw [if_neg (show ¬ (false = true) by decide)] at H; exact H
            clear H
            have H := H1
            clear H1
            exact absurd (Option.some.inj H) (by rw [hr_]; decide)

end Go.Proofs.Ytlhiificglpgkaa.MG
