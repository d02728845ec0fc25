-- Written by a program of this session (wip/print/myprint.py) over the kit's printer; Lean checks it.
import Derived.Test.YtaclbccjcjdbpaaMYx0
import Derived.Test.YtaclbccjcjdbpaaMYx2
import Derived.Test.YtaclbccjcjdbpaaMYx3
import Derived.Test.YtaclbccjcjdbpaaMYx4
import Derived.Test.YtaclbccjcjdbpaaMYx9
import Derived.Test.YtaclbccjcjdbpaaMYx20
namespace Go.Proofs.Ytaclbccjcjdbpaa.MY
open Go.RowKit Go.Proofs.YtaclbccjcjdbpaaW.PrintWords Go.Proofs.YtaclbccjcjdbpaaW.PrintLast Go.Proofs.YtaclbccjcjdbpaaW.PrintMore Go.Proofs.YtaclbccjcjdbpaaV
attribute [local go_sem] max2_int min2_int max_two min_two max_three min_three max_four min_four   -- for this text's walks alone
set_option linter.unusedVariables false
set_option linter.unusedSimpArgs false

/-! ### laws_FnExactJoinBands: function 9 -/
mutual
def laws_FnExactJoinBands.j0 : Nat → List (S43) → List (S43) → List (S34) → Bool → List (S34) → List (S34) → List (S34) → Bool → Bool → Option (Bool)
  | 0, _, _, _, _, _, _, _, _, _ => none
  | k + 1, x0, x1, x6, x7, x8, x9, x10, x11, x53 => if x53 = true then (some false) else ((laws_toPegS.f k x0).bind fun t360 => ((laws_eqPegS.f k x8 t360).bind fun t363 => (if t363 = true then ((laws_toPegS.f k x1).bind fun t364 => ((laws_eqPegS.f k x9 t364).bind fun t367 => (if t367 = true then ((laws_markPegS.f k x8 1).bind fun bt368 => ((laws_markPegS.f k x9 bt368.1).bind fun bt370 => (if bt370.1 < 0 then (laws_FnExactJoinBands.j1 k x0 x1 x6 x7 x10 true) else ((laws_eqPegS.f k x10 x6).bind fun t372 => (if t372 = true then (laws_FnExactJoinBands.j1 k x0 x1 x6 x7 x10 (x11 != x7)) else (laws_FnExactJoinBands.j1 k x0 x1 x6 x7 x10 true)))))) else (some false)))) else (some false))))
def laws_FnExactJoinBands.j1 : Nat → List (S43) → List (S43) → List (S34) → Bool → List (S34) → Bool → Option (Bool)
  | 0, _, _, _, _, _, _ => none
  | k + 1, x0, x1, x6, x7, x10, x82 => if x82 = true then (some false) else ((laws_markPegS.f k x10 1).bind fun bt373 => ((laws_heldPegS.f k bt373.2 1).bind fun t375 => (if t375 < 0 then (some false) else (if t375 = bt373.1 then ((laws_toPegS.f k x0).bind fun t376 => ((laws_toPegS.f k x1).bind fun t379 => ((impl_JoinBands.f k t376 t379).bind fun bt382 => ((laws_eqPegS.f k bt382.1 x6).bind fun t386 => (if t386 = true then (laws_FnExactJoinBands.j2 k bt373.2 bt373.1 (bt382.2 != x7)) else (laws_FnExactJoinBands.j2 k bt373.2 bt373.1 true)))))) else (some false)))))
def laws_FnExactJoinBands.j2 : Nat → List (S34) → Int → Bool → Option (Bool)
  | 0, _, _, _ => none
  | k + 1, x10, x13, x110 => if x110 = true then (some false) else ((laws_heldPegS.f k x10 1).bind fun t387 => (if t387 < 0 then (some false) else (if t387 = x13 then (some true) else (some false))))
end
def laws_FnExactJoinBands.f (k : Nat) (l0 : List (S43)) (l1 : List (S43)) : Option (Bool) := (laws_szPegS.f l0 1048576).bind fun t337 => (if t337 < 0 then (some true) else ((laws_szPegS.f l1 t337).bind fun t338 => (if t338 < 0 then (some true) else ((laws_toPegS.f k l0).bind fun t339 => ((laws_toPegS.f k l1).bind fun t342 => ((spec_JoinBands.f k t339 t342).bind fun bt345 => ((laws_toPegS.f k l0).bind fun t349 => ((laws_toPegS.f k l1).bind fun t352 => ((impl_JoinBands.f k t349 t352).bind fun bt355 => ((laws_eqPegS.f k bt355.1 bt345.1).bind fun t359 => (if t359 = true then (laws_FnExactJoinBands.j0 k l0 l1 bt345.1 bt345.2 t349 t352 bt355.1 bt355.2 (bt355.2 != bt345.2)) else (laws_FnExactJoinBands.j0 k l0 l1 bt345.1 bt345.2 t349 t352 bt355.1 bt355.2 true))))))))))))
theorem laws_FnExactJoinBands.mono_l : ∀ k, (∀ y0 y1 y2 y3 y4 y5 y6 y7 y8, LeO (laws_FnExactJoinBands.j0 k y0 y1 y2 y3 y4 y5 y6 y7 y8) (laws_FnExactJoinBands.j0 (k + 1) y0 y1 y2 y3 y4 y5 y6 y7 y8)) ∧ (∀ y0 y1 y2 y3 y4 y5, LeO (laws_FnExactJoinBands.j1 k y0 y1 y2 y3 y4 y5) (laws_FnExactJoinBands.j1 (k + 1) y0 y1 y2 y3 y4 y5)) ∧ (∀ y0 y1 y2, LeO (laws_FnExactJoinBands.j2 k y0 y1 y2) (laws_FnExactJoinBands.j2 (k + 1) y0 y1 y2))
  | 0 => ⟨fun _ _ _ _ _ _ _ _ _ r h => by simp [laws_FnExactJoinBands.j0] at h, fun _ _ _ _ _ _ r h => by simp [laws_FnExactJoinBands.j1] at h, fun _ _ _ r h => by simp [laws_FnExactJoinBands.j2] at h⟩
  | k + 1 => by
    obtain ⟨ih0, ih1, ih2⟩ := laws_FnExactJoinBands.mono_l k
    refine ⟨?_, ?_, ?_⟩
    · intro y0 y1 y2 y3 y4 y5 y6 y7 y8
      unfold laws_FnExactJoinBands.j0
      repeat' first
      | (with_reducible exact ih0 _ _ _ _ _ _ _ _ _)
      | (with_reducible exact ih1 _ _ _ _ _ _)
      | (with_reducible exact ih2 _ _ _)
      | (with_reducible exact impl_JoinBands.mono _ _ _)
      | (with_reducible exact laws_eqPegS.mono _ _ _)
      | (with_reducible exact laws_heldPegS.mono _ _ _)
      | (with_reducible exact laws_markPegS.mono _ _ _)
      | (with_reducible exact laws_toPegS.mono _ _)
      | (with_reducible exact spec_JoinBands.mono _ _ _)
      | (with_reducible exact LeO.refl _)
      | (with_reducible exact LeO.none _)
      | (with_reducible refine LeO.ite ?_ ?_)
      | (with_reducible refine LeO.bind ?_ (fun _ => ?_))
      | exact ih0 _ _ _ _ _ _ _ _ _
      | exact ih1 _ _ _ _ _ _
      | exact ih2 _ _ _
      | exact impl_JoinBands.mono _ _ _
      | exact laws_eqPegS.mono _ _ _
      | exact laws_heldPegS.mono _ _ _
      | exact laws_markPegS.mono _ _ _
      | exact laws_toPegS.mono _ _
      | exact spec_JoinBands.mono _ _ _
      | exact LeO.none _
      | refine LeO.ite ?_ ?_
      | refine LeO.bind ?_ (fun _ => ?_)
    · intro y0 y1 y2 y3 y4 y5
      unfold laws_FnExactJoinBands.j1
      repeat' first
      | (with_reducible exact ih0 _ _ _ _ _ _ _ _ _)
      | (with_reducible exact ih1 _ _ _ _ _ _)
      | (with_reducible exact ih2 _ _ _)
      | (with_reducible exact impl_JoinBands.mono _ _ _)
      | (with_reducible exact laws_eqPegS.mono _ _ _)
      | (with_reducible exact laws_heldPegS.mono _ _ _)
      | (with_reducible exact laws_markPegS.mono _ _ _)
      | (with_reducible exact laws_toPegS.mono _ _)
      | (with_reducible exact spec_JoinBands.mono _ _ _)
      | (with_reducible exact LeO.refl _)
      | (with_reducible exact LeO.none _)
      | (with_reducible refine LeO.ite ?_ ?_)
      | (with_reducible refine LeO.bind ?_ (fun _ => ?_))
      | exact ih0 _ _ _ _ _ _ _ _ _
      | exact ih1 _ _ _ _ _ _
      | exact ih2 _ _ _
      | exact impl_JoinBands.mono _ _ _
      | exact laws_eqPegS.mono _ _ _
      | exact laws_heldPegS.mono _ _ _
      | exact laws_markPegS.mono _ _ _
      | exact laws_toPegS.mono _ _
      | exact spec_JoinBands.mono _ _ _
      | exact LeO.none _
      | refine LeO.ite ?_ ?_
      | refine LeO.bind ?_ (fun _ => ?_)
    · intro y0 y1 y2
      unfold laws_FnExactJoinBands.j2
      repeat' first
      | (with_reducible exact ih0 _ _ _ _ _ _ _ _ _)
      | (with_reducible exact ih1 _ _ _ _ _ _)
      | (with_reducible exact ih2 _ _ _)
      | (with_reducible exact impl_JoinBands.mono _ _ _)
      | (with_reducible exact laws_eqPegS.mono _ _ _)
      | (with_reducible exact laws_heldPegS.mono _ _ _)
      | (with_reducible exact laws_markPegS.mono _ _ _)
      | (with_reducible exact laws_toPegS.mono _ _)
      | (with_reducible exact spec_JoinBands.mono _ _ _)
      | (with_reducible exact LeO.refl _)
      | (with_reducible exact LeO.none _)
      | (with_reducible refine LeO.ite ?_ ?_)
      | (with_reducible refine LeO.bind ?_ (fun _ => ?_))
      | exact ih0 _ _ _ _ _ _ _ _ _
      | exact ih1 _ _ _ _ _ _
      | exact ih2 _ _ _
      | exact impl_JoinBands.mono _ _ _
      | exact laws_eqPegS.mono _ _ _
      | exact laws_heldPegS.mono _ _ _
      | exact laws_markPegS.mono _ _ _
      | exact laws_toPegS.mono _ _
      | exact spec_JoinBands.mono _ _ _
      | exact LeO.none _
      | refine LeO.ite ?_ ?_
      | refine LeO.bind ?_ (fun _ => ?_)
theorem laws_FnExactJoinBands.mono : ∀ a0 a1 k, LeO (laws_FnExactJoinBands.f k a0 a1) (laws_FnExactJoinBands.f (k + 1) a0 a1) := by
  intro a0 a1 k
  obtain ⟨ih0, ih1, ih2⟩ := laws_FnExactJoinBands.mono_l k
  unfold laws_FnExactJoinBands.f
  repeat' first
      | (with_reducible exact ih0 _ _ _ _ _ _ _ _ _)
      | (with_reducible exact ih1 _ _ _ _ _ _)
      | (with_reducible exact ih2 _ _ _)
      | (with_reducible exact impl_JoinBands.mono _ _ _)
      | (with_reducible exact laws_eqPegS.mono _ _ _)
      | (with_reducible exact laws_heldPegS.mono _ _ _)
      | (with_reducible exact laws_markPegS.mono _ _ _)
      | (with_reducible exact laws_toPegS.mono _ _)
      | (with_reducible exact spec_JoinBands.mono _ _ _)
      | (with_reducible exact LeO.refl _)
      | (with_reducible exact LeO.none _)
      | (with_reducible refine LeO.ite ?_ ?_)
      | (with_reducible refine LeO.bind ?_ (fun _ => ?_))
      | exact ih0 _ _ _ _ _ _ _ _ _
      | exact ih1 _ _ _ _ _ _
      | exact ih2 _ _ _
      | exact impl_JoinBands.mono _ _ _
      | exact laws_eqPegS.mono _ _ _
      | exact laws_heldPegS.mono _ _ _
      | exact laws_markPegS.mono _ _ _
      | exact laws_toPegS.mono _ _
      | exact spec_JoinBands.mono _ _ _
      | exact LeO.none _
      | refine LeO.ite ?_ ?_
      | refine LeO.bind ?_ (fun _ => ?_)
set_option maxHeartbeats 8000000 in
set_option maxRecDepth 100000 in
theorem laws_FnExactJoinBands.calls (k : Nat) (A0 : Option Addr) (c0 : Nat) (l0 : List (S43)) (A1 : Option Addr) (c1 : Nat) (l1 : List (S43)) (r : Bool) (w : World) (hr0 : Kd.C k43 w A0 l0.length l0) (hc0 : l0.length ≤ c0) (hr1 : Kd.C k43 w A1 l1.length l1) (hc1 : l1.length ≤ c1) (hr_ : r = true) (h : laws_FnExactJoinBands.f k l0 l1 = some r) :
    Calls Try.prog 9 #[.slice A0 l0.length c0, .slice A1 l1.length c1] w fun e w' => e = .returned (.bool r) ∧ Below w.heap.size w w' := by
  have HR0 := Aside0.mk hr0
  have HC0 := Aside0.mk hc0
  clear hr0 hc0
  have HR1 := Aside0.mk hr1
  have HC1 := Aside0.mk hc1
  clear hr1 hc1
  have HB := Aside0.mk (Below.refl w.heap.size w)
  have H : ((laws_szPegS.f l0 1048576).bind fun t337 => (if t337 < 0 then (some true) else ((laws_szPegS.f l1 t337).bind fun t338 => (if t338 < 0 then (some true) else ((laws_toPegS.f k l0).bind fun t339 => ((laws_toPegS.f k l1).bind fun t342 => ((spec_JoinBands.f k t339 t342).bind fun bt345 => ((laws_toPegS.f k l0).bind fun t349 => ((laws_toPegS.f k l1).bind fun t352 => ((impl_JoinBands.f k t349 t352).bind fun bt355 => ((laws_eqPegS.f k bt355.1 bt345.1).bind fun t359 => (if t359 = true then (laws_FnExactJoinBands.j0 k l0 l1 bt345.1 bt345.2 t349 t352 bt355.1 bt355.2 (bt355.2 != bt345.2)) else (laws_FnExactJoinBands.j0 k l0 l1 bt345.1 bt345.2 t349 t352 bt355.1 bt355.2 true))))))))))))) = some r := h
  clear h
  replace H := Option.bind_eq_some_iff.mp H
  obtain ⟨t337, A30, H⟩ := H
  replace H : (if t337 < 0 then (some true) else ((laws_szPegS.f l1 t337).bind fun t338 => (if t338 < 0 then (some true) else ((laws_toPegS.f k l0).bind fun t339 => ((laws_toPegS.f k l1).bind fun t342 => ((spec_JoinBands.f k t339 t342).bind fun bt345 => ((laws_toPegS.f k l0).bind fun t349 => ((laws_toPegS.f k l1).bind fun t352 => ((impl_JoinBands.f k t349 t352).bind fun bt355 => ((laws_eqPegS.f k bt355.1 bt345.1).bind fun t359 => (if t359 = true then (laws_FnExactJoinBands.j0 k l0 l1 bt345.1 bt345.2 t349 t352 bt355.1 bt355.2 (bt355.2 != bt345.2)) else (laws_FnExactJoinBands.j0 k l0 l1 bt345.1 bt345.2 t349 t352 bt355.1 bt355.2 true)))))))))))) = some r := H
  have A3 := Aside0.mk A30
  clear A30
  by_cases c4 : t337 < 0
  · rw [if_pos c4] at H
    have c4b0 : decide (t337 < 0) = true := decide_eq_true c4
    clear c4
    obtain rfl := Option.some.inj H
    go_enter Try.func9, Try.ntmps9
    go_wp2_with (first | ((with_reducible refine gate_callee (f := 15) rfl ?_); refine goesL_ (some 19) rfl rfl Try.func15 (by kernel_rfl) rfl #[.slice A0 l0.length c0, .int .i64 1048576] rfl (by (try simp only [List.map_toArray, List.map_cons, List.map_nil]); first | done | rfl | (simp only [List.length_drop, List.length_take]; rfl)) ?_; (with_reducible refine (laws_szPegS.calls _ _ l0 1048576 t337 _ ?side1 ?side2 A3.out).mono ?_); (case side1 => repeat (first | exact HR0.out | (with_reducible refine Kd.C_alloc ?_ _) | (with_reducible refine Kd.C_drewN ?_ _) | (with_reducible refine Kd.C_drew ?_))); (case side2 => exact HC0.out); rintro e w' ⟨rfl, ⟨nd, rfl⟩⟩; refine ⟨_, rfl, ?_⟩))
    go_ret
    exact ⟨by first | rfl | (simp [errW_none, errW_some] <;> rfl) | (simp [*, errW_none, errW_some] <;> rfl), hb_⟩
  · rw [if_neg c4] at H
    have c4b0 : decide (t337 < 0) = false := decide_eq_false c4
    clear c4
    replace H := Option.bind_eq_some_iff.mp H
    obtain ⟨t338, A50, H⟩ := H
    replace H : (if t338 < 0 then (some true) else ((laws_toPegS.f k l0).bind fun t339 => ((laws_toPegS.f k l1).bind fun t342 => ((spec_JoinBands.f k t339 t342).bind fun bt345 => ((laws_toPegS.f k l0).bind fun t349 => ((laws_toPegS.f k l1).bind fun t352 => ((impl_JoinBands.f k t349 t352).bind fun bt355 => ((laws_eqPegS.f k bt355.1 bt345.1).bind fun t359 => (if t359 = true then (laws_FnExactJoinBands.j0 k l0 l1 bt345.1 bt345.2 t349 t352 bt355.1 bt355.2 (bt355.2 != bt345.2)) else (laws_FnExactJoinBands.j0 k l0 l1 bt345.1 bt345.2 t349 t352 bt355.1 bt355.2 true)))))))))) = some r := H
    have A5 := Aside0.mk A50
    clear A50
    by_cases c6 : t338 < 0
    · rw [if_pos c6] at H
      have c6b0 : decide (t338 < 0) = true := decide_eq_true c6
      clear c6
      obtain rfl := Option.some.inj H
      go_enter Try.func9, Try.ntmps9
      go_wp2_with (first | ((with_reducible refine gate_callee (f := 15) rfl ?_); refine goesL_ (some 19) rfl rfl Try.func15 (by kernel_rfl) rfl #[.slice A0 l0.length c0, .int .i64 1048576] rfl (by (try simp only [List.map_toArray, List.map_cons, List.map_nil]); first | done | rfl | (simp only [List.length_drop, List.length_take]; rfl)) ?_; (with_reducible refine (laws_szPegS.calls _ _ l0 1048576 t337 _ ?side1 ?side2 A3.out).mono ?_); (case side1 => repeat (first | exact HR0.out | (with_reducible refine Kd.C_alloc ?_ _) | (with_reducible refine Kd.C_drewN ?_ _) | (with_reducible refine Kd.C_drew ?_))); (case side2 => exact HC0.out); rintro e w' ⟨rfl, ⟨nd, rfl⟩⟩; refine ⟨_, rfl, ?_⟩) | ((with_reducible refine gate_callee (f := 15) rfl ?_); refine goesL_ (some 24) rfl rfl Try.func15 (by kernel_rfl) rfl #[.slice A1 l1.length c1, .int .i64 t337] rfl (by (try simp only [List.map_toArray, List.map_cons, List.map_nil]); first | done | rfl | (simp only [List.length_drop, List.length_take]; rfl)) ?_; (with_reducible refine (laws_szPegS.calls _ _ l1 t337 t338 _ ?side1 ?side2 A5.out).mono ?_); (case side1 => repeat (first | exact HR1.out | (with_reducible refine Kd.C_alloc ?_ _) | (with_reducible refine Kd.C_drewN ?_ _) | (with_reducible refine Kd.C_drew ?_))); (case side2 => exact HC1.out); rintro e w' ⟨rfl, ⟨nd, rfl⟩⟩; refine ⟨_, rfl, ?_⟩))
      go_ret
      exact ⟨by first | rfl | (simp [errW_none, errW_some] <;> rfl) | (simp [*, errW_none, errW_some] <;> rfl), hb_⟩
    · rw [if_neg c6] at H
      have c6b0 : decide (t338 < 0) = false := decide_eq_false c6
      clear c6
      replace H := Option.bind_eq_some_iff.mp H
      obtain ⟨t339, A70, H⟩ := H
      replace H : ((laws_toPegS.f k l1).bind fun t342 => ((spec_JoinBands.f k t339 t342).bind fun bt345 => ((laws_toPegS.f k l0).bind fun t349 => ((laws_toPegS.f k l1).bind fun t352 => ((impl_JoinBands.f k t349 t352).bind fun bt355 => ((laws_eqPegS.f k bt355.1 bt345.1).bind fun t359 => (if t359 = true then (laws_FnExactJoinBands.j0 k l0 l1 bt345.1 bt345.2 t349 t352 bt355.1 bt355.2 (bt355.2 != bt345.2)) else (laws_FnExactJoinBands.j0 k l0 l1 bt345.1 bt345.2 t349 t352 bt355.1 bt355.2 true)))))))) = some r := H
      have A7 := Aside0.mk A70
      clear A70
      replace H := Option.bind_eq_some_iff.mp H
      obtain ⟨t342, A80, H⟩ := H
      replace H : ((spec_JoinBands.f k t339 t342).bind fun bt345 => ((laws_toPegS.f k l0).bind fun t349 => ((laws_toPegS.f k l1).bind fun t352 => ((impl_JoinBands.f k t349 t352).bind fun bt355 => ((laws_eqPegS.f k bt355.1 bt345.1).bind fun t359 => (if t359 = true then (laws_FnExactJoinBands.j0 k l0 l1 bt345.1 bt345.2 t349 t352 bt355.1 bt355.2 (bt355.2 != bt345.2)) else (laws_FnExactJoinBands.j0 k l0 l1 bt345.1 bt345.2 t349 t352 bt355.1 bt355.2 true))))))) = some r := H
      have A8 := Aside0.mk A80
      clear A80
      replace H := Option.bind_eq_some_iff.mp H
      obtain ⟨⟨t345, t346⟩, A90, H⟩ := H
      replace H : ((laws_toPegS.f k l0).bind fun t349 => ((laws_toPegS.f k l1).bind fun t352 => ((impl_JoinBands.f k t349 t352).bind fun bt355 => ((laws_eqPegS.f k bt355.1 t345).bind fun t359 => (if t359 = true then (laws_FnExactJoinBands.j0 k l0 l1 t345 t346 t349 t352 bt355.1 bt355.2 (bt355.2 != t346)) else (laws_FnExactJoinBands.j0 k l0 l1 t345 t346 t349 t352 bt355.1 bt355.2 true)))))) = some r := H
      have A9 := Aside0.mk A90
      clear A90
      replace H := Option.bind_eq_some_iff.mp H
      obtain ⟨t349, A100, H⟩ := H
      replace H : ((laws_toPegS.f k l1).bind fun t352 => ((impl_JoinBands.f k t349 t352).bind fun bt355 => ((laws_eqPegS.f k bt355.1 t345).bind fun t359 => (if t359 = true then (laws_FnExactJoinBands.j0 k l0 l1 t345 t346 t349 t352 bt355.1 bt355.2 (bt355.2 != t346)) else (laws_FnExactJoinBands.j0 k l0 l1 t345 t346 t349 t352 bt355.1 bt355.2 true))))) = some r := H
      have A10 := Aside0.mk A100
      clear A100
      replace H := Option.bind_eq_some_iff.mp H
      obtain ⟨t352, A110, H⟩ := H
      replace H : ((impl_JoinBands.f k t349 t352).bind fun bt355 => ((laws_eqPegS.f k bt355.1 t345).bind fun t359 => (if t359 = true then (laws_FnExactJoinBands.j0 k l0 l1 t345 t346 t349 t352 bt355.1 bt355.2 (bt355.2 != t346)) else (laws_FnExactJoinBands.j0 k l0 l1 t345 t346 t349 t352 bt355.1 bt355.2 true)))) = some r := H
      have A11 := Aside0.mk A110
      clear A110
      replace H := Option.bind_eq_some_iff.mp H
      obtain ⟨⟨t355, t358⟩, A120, H⟩ := H
      replace H : ((laws_eqPegS.f k t355 t345).bind fun t359 => (if t359 = true then (laws_FnExactJoinBands.j0 k l0 l1 t345 t346 t349 t352 t355 t358 (t358 != t346)) else (laws_FnExactJoinBands.j0 k l0 l1 t345 t346 t349 t352 t355 t358 true))) = some r := H
      have A12 := Aside0.mk A120
      clear A120
      have HC13 := Aside0.mk H
      clear H
      go_enter Try.func9, Try.ntmps9
      go_upto_region 12 with (first | ((with_reducible refine gate_callee (f := 15) rfl ?_); refine goesL_ (some 19) rfl rfl Try.func15 (by kernel_rfl) rfl #[.slice A0 l0.length c0, .int .i64 1048576] rfl (by (try simp only [List.map_toArray, List.map_cons, List.map_nil]); first | done | rfl | (simp only [List.length_drop, List.length_take]; rfl)) ?_; (with_reducible refine (laws_szPegS.calls _ _ l0 1048576 t337 _ ?side1 ?side2 A3.out).mono ?_); (case side1 => repeat (first | exact HR0.out | (with_reducible refine Kd.C_alloc ?_ _) | (with_reducible refine Kd.C_drewN ?_ _) | (with_reducible refine Kd.C_drew ?_))); (case side2 => exact HC0.out); rintro e w' ⟨rfl, ⟨nd, rfl⟩⟩; refine ⟨_, rfl, ?_⟩) | ((with_reducible refine gate_callee (f := 15) rfl ?_); refine goesL_ (some 24) rfl rfl Try.func15 (by kernel_rfl) rfl #[.slice A1 l1.length c1, .int .i64 t337] rfl (by (try simp only [List.map_toArray, List.map_cons, List.map_nil]); first | done | rfl | (simp only [List.length_drop, List.length_take]; rfl)) ?_; (with_reducible refine (laws_szPegS.calls _ _ l1 t337 t338 _ ?side1 ?side2 A5.out).mono ?_); (case side1 => repeat (first | exact HR1.out | (with_reducible refine Kd.C_alloc ?_ _) | (with_reducible refine Kd.C_drewN ?_ _) | (with_reducible refine Kd.C_drew ?_))); (case side2 => exact HC1.out); rintro e w' ⟨rfl, ⟨nd, rfl⟩⟩; refine ⟨_, rfl, ?_⟩) | ((with_reducible refine gate_callee (f := 17) rfl ?_); refine goesL_ (some 29) rfl rfl Try.func17 (by kernel_rfl) rfl #[.slice A0 l0.length c0] rfl (by (try simp only [List.map_toArray, List.map_cons, List.map_nil]); first | done | rfl | (simp only [List.length_drop, List.length_take]; rfl)) ?_; (with_reducible refine (laws_toPegS.calls k _ _ l0 t339 _ ?side1 ?side2 A7.out).mono ?_); (case side1 => repeat (first | exact HR0.out | (with_reducible refine Kd.C_alloc ?_ _) | (with_reducible refine Kd.C_drewN ?_ _) | (with_reducible refine Kd.C_drew ?_))); (case side2 => exact HC0.out); rintro e w14 ⟨v340, rfl, ho0, hb⟩; refine ⟨_, rfl, ?_⟩; have n0_ := Aside0.mk (Kd.R_lower ho0 (below_size (hb_))); have n1_ := Aside0.mk (below_step (hb_) hb); clear HB; have HO341 := n0_; have HB := n1_; clear n0_ n1_; (try clear hb); (try clear hb2); (try clear hk); (try clear hi); (try clear ho0)) | ((with_reducible refine gate_callee (f := 17) rfl ?_); refine goesL_ (some 31) rfl rfl Try.func17 (by kernel_rfl) rfl #[.slice A1 l1.length c1] rfl (by (try simp only [List.map_toArray, List.map_cons, List.map_nil]); first | done | rfl | (simp only [List.length_drop, List.length_take]; rfl)) ?_; (with_reducible refine (laws_toPegS.calls k _ _ l1 t342 _ ?side1 ?side2 A8.out).mono ?_); (case side1 => repeat (first | exact (Kd.C_below HR1.out HB.out) | (with_reducible refine Kd.C_alloc ?_ _) | (with_reducible refine Kd.C_drewN ?_ _) | (with_reducible refine Kd.C_drew ?_))); (case side2 => exact HC1.out); rintro e w15 ⟨v343, rfl, ho0, hb⟩; refine ⟨_, rfl, ?_⟩; have n0_ := Aside0.mk (Kd.R_elder' (rk_ HO341.out) (Kd.R_base ho0) hb); have n1_ := Aside0.mk (Kd.R_lower (Kd.R_new' ho0 (Kd.R_lt (rk_ HO341.out))) (below_size (hb_))); have n2_ := Aside0.mk (below_step (hb_) hb); clear HO341; clear HB; have HO341 := n0_; have HO344 := n1_; have HB := n2_; clear n0_ n1_ n2_; (try clear hb); (try clear hb2); (try clear hk); (try clear hi); (try clear ho0); obtain ⟨Ao16, co16, eo16⟩ := Kd.R_slice HO341.out; subst eo16; obtain ⟨Ao17, co17, eo17⟩ := Kd.R_slice HO344.out; subst eo17) | ((with_reducible refine gate_callee (f := 33) rfl ?_); refine goesL_ (some 32) rfl rfl Try.func33 (by kernel_rfl) rfl #[.slice Ao16 t339.length co16, .slice Ao17 t342.length co17] rfl (by (try simp only [List.map_toArray, List.map_cons, List.map_nil]); first | done | rfl | (simp only [List.length_drop, List.length_take]; rfl)) ?_; (with_reducible refine (spec_JoinBands.calls k _ _ t339 _ _ t342 t345 t346 _ ?side1 ?side2 ?side3 ?side4 A9.out).mono ?_); (case side1 => repeat (first | exact (Kd.R_reads' HO341.out).2.2 | (with_reducible refine Kd.C_alloc ?_ _) | (with_reducible refine Kd.C_drewN ?_ _) | (with_reducible refine Kd.C_drew ?_))); (case side2 => exact (Kd.R_reads' HO341.out).2.1); (case side3 => repeat (first | exact (Kd.R_reads' HO344.out).2.2 | (with_reducible refine Kd.C_alloc ?_ _) | (with_reducible refine Kd.C_drewN ?_ _) | (with_reducible refine Kd.C_drew ?_))); (case side4 => exact (Kd.R_reads' HO344.out).2.1); rintro e w18 ⟨v347, rfl, ho0, hb⟩; refine ⟨_, rfl, ?_⟩; have n0_ := Aside0.mk (Kd.R_elder' (rk_ HO341.out) (Kd.R_base ho0) hb); have n1_ := Aside0.mk (Kd.R_elder' (rk_ HO344.out) (Kd.R_base ho0) hb); have n2_ := Aside0.mk (Kd.R_lower (Kd.R_new' (Kd.R_new' ho0 (Kd.R_lt (rk_ HO341.out))) (Kd.R_lt (rk_ HO344.out))) (below_size (hb_))); have n3_ := Aside0.mk (below_step (hb_) hb); clear HO341; clear HO344; clear HB; have HO341 := n0_; have HO344 := n1_; have HO348 := n2_; have HB := n3_; clear n0_ n1_ n2_ n3_; (try clear hb); (try clear hb2); (try clear hk); (try clear hi); (try clear ho0)) | ((with_reducible refine gate_callee (f := 17) rfl ?_); refine goesL_ (some 36) rfl rfl Try.func17 (by kernel_rfl) rfl #[.slice A0 l0.length c0] rfl (by (try simp only [List.map_toArray, List.map_cons, List.map_nil]); first | done | rfl | (simp only [List.length_drop, List.length_take]; rfl)) ?_; (with_reducible refine (laws_toPegS.calls k _ _ l0 t349 _ ?side1 ?side2 A10.out).mono ?_); (case side1 => repeat (first | exact (Kd.C_below HR0.out HB.out) | (with_reducible refine Kd.C_alloc ?_ _) | (with_reducible refine Kd.C_drewN ?_ _) | (with_reducible refine Kd.C_drew ?_))); (case side2 => exact HC0.out); rintro e w19 ⟨v350, rfl, ho0, hb⟩; refine ⟨_, rfl, ?_⟩; have n0_ := Aside0.mk (Kd.R_elder' (rk_ HO341.out) (Kd.R_base ho0) hb); have n1_ := Aside0.mk (Kd.R_elder' (rk_ HO344.out) (Kd.R_base ho0) hb); have n2_ := Aside0.mk (Kd.R_elder' (rk_ HO348.out) (Kd.R_base ho0) hb); have n3_ := Aside0.mk (Kd.R_lower (Kd.R_new' (Kd.R_new' (Kd.R_new' ho0 (Kd.R_lt (rk_ HO341.out))) (Kd.R_lt (rk_ HO344.out))) (Kd.R_lt (rk_ HO348.out))) (below_size (hb_))); have n4_ := Aside0.mk (below_step (hb_) hb); clear HO341; clear HO344; clear HO348; clear HB; have HO341 := n0_; have HO344 := n1_; have HO348 := n2_; have HO351 := n3_; have HB := n4_; clear n0_ n1_ n2_ n3_ n4_; (try clear hb); (try clear hb2); (try clear hk); (try clear hi); (try clear ho0)) | ((with_reducible refine gate_callee (f := 17) rfl ?_); refine goesL_ (some 38) rfl rfl Try.func17 (by kernel_rfl) rfl #[.slice A1 l1.length c1] rfl (by (try simp only [List.map_toArray, List.map_cons, List.map_nil]); first | done | rfl | (simp only [List.length_drop, List.length_take]; rfl)) ?_; (with_reducible refine (laws_toPegS.calls k _ _ l1 t352 _ ?side1 ?side2 A11.out).mono ?_); (case side1 => repeat (first | exact (Kd.C_below HR1.out HB.out) | (with_reducible refine Kd.C_alloc ?_ _) | (with_reducible refine Kd.C_drewN ?_ _) | (with_reducible refine Kd.C_drew ?_))); (case side2 => exact HC1.out); rintro e w20 ⟨v353, rfl, ho0, hb⟩; refine ⟨_, rfl, ?_⟩; have n0_ := Aside0.mk (Kd.R_elder' (rk_ HO341.out) (Kd.R_base ho0) hb); have n1_ := Aside0.mk (Kd.R_elder' (rk_ HO344.out) (Kd.R_base ho0) hb); have n2_ := Aside0.mk (Kd.R_elder' (rk_ HO348.out) (Kd.R_base ho0) hb); have n3_ := Aside0.mk (Kd.R_elder' (rk_ HO351.out) (Kd.R_base ho0) hb); have n4_ := Aside0.mk (Kd.R_lower (Kd.R_new' (Kd.R_new' (Kd.R_new' (Kd.R_new' ho0 (Kd.R_lt (rk_ HO341.out))) (Kd.R_lt (rk_ HO344.out))) (Kd.R_lt (rk_ HO348.out))) (Kd.R_lt (rk_ HO351.out))) (below_size (hb_))); have n5_ := Aside0.mk (below_step (hb_) hb); clear HO341; clear HO344; clear HO348; clear HO351; clear HB; have HO341 := n0_; have HO344 := n1_; have HO348 := n2_; have HO351 := n3_; have HO354 := n4_; have HB := n5_; clear n0_ n1_ n2_ n3_ n4_ n5_; (try clear hb); (try clear hb2); (try clear hk); (try clear hi); (try clear ho0); obtain ⟨Ao21, co21, eo21⟩ := Kd.R_slice HO351.out; subst eo21; obtain ⟨Ao22, co22, eo22⟩ := Kd.R_slice HO354.out; subst eo22) | ((with_reducible refine gate_callee (f := 34) rfl ?_); refine goesL_ (some 42) rfl rfl Try.func34 (by kernel_rfl) rfl #[.slice Ao21 t349.length co21, .slice Ao22 t352.length co22] rfl (by (try simp only [List.map_toArray, List.map_cons, List.map_nil]); first | done | rfl | (simp only [List.length_drop, List.length_take]; rfl)) ?_; (with_reducible refine (impl_JoinBands.calls k (fun k_ => some k_ = (.slice Ao21 t349.length co21 : Value).ownBlock) _ _ t349 (fun k_ => some k_ = (.slice Ao22 t352.length co22 : Value).ownBlock) _ _ t352 t355 t358 _ ?side1 ?side2 A12.out).mono ?_); (case side1 => exact Kd.R_V (Kd.R_tight rfl (HO351.out))); (case side2 => exact Kd.R_V (Kd.R_tight rfl (HO354.out))); rintro e w23 ⟨v356, rfl, ho0, hb⟩; refine ⟨_, rfl, ?_⟩; have n0_ := Aside0.mk (Kd.R_elder' (rk_ HO341.out) (Kd.R_base ho0) hb); have n1_ := Aside0.mk (Kd.R_elder' (rk_ HO344.out) (Kd.R_base ho0) hb); have n2_ := Aside0.mk (Kd.R_elder' (rk_ HO348.out) (Kd.R_base ho0) hb); have n3_ := Aside0.mk (Kd.R_elder' (rk_ HO351.out) (Kd.R_base ho0) hb); have n4_ := Aside0.mk (Kd.R_elder' (rk_ HO354.out) (Kd.R_base ho0) hb); have n5_ := Aside0.mk (Kd.R_lower (Kd.R_new' (Kd.R_new' (Kd.R_new' (Kd.R_new' (Kd.R_new' (Kd.R_mono (ok' := fun k_ => True) ho0 (fun _ hk_ => trivial)) (Kd.R_lt (rk_ HO341.out))) (Kd.R_lt (rk_ HO344.out))) (Kd.R_lt (rk_ HO348.out))) (Kd.R_lt (rk_ HO351.out))) (Kd.R_lt (rk_ HO354.out))) (below_size (hb_))); have n6_ := Aside0.mk (below_step (hb_) hb); clear HO341; clear HO344; clear HO348; clear HO351; clear HO354; clear HB; have HO341 := n0_; have HO344 := n1_; have HO348 := n2_; have HO351 := n3_; have HO354 := n4_; have HO357 := n5_; have HB := n6_; clear n0_ n1_ n2_ n3_ n4_ n5_ n6_; (try clear hb); (try clear hb2); (try clear hk); (try clear hi); (try clear ho0)))
      (try simp only [Act.put, List.setIfInBounds_toArray, List.set_cons_zero, List.set_cons_succ])
      go_cut [53] (fun v53 wc => ∃ (kq : Nat) (x53_12 : Bool), v53 = .bool x53_12 ∧ Aside0 (laws_FnExactJoinBands.j0 kq l0 l1 t345 t346 t349 t352 t355 t358 x53_12 = some r) ∧ Aside0 (kq ≤ k) ∧ Aside0 (Kd.R k34 34 wc w.heap.size (fun k_ => some k_ ≠ ((.slice Ao21 t349.length co21) : Value).ownBlock ∧ some k_ ≠ ((.slice Ao22 t352.length co22) : Value).ownBlock ∧ some k_ ≠ (v356 : Value).ownBlock) v347 t345) ∧ Aside0 (Kd.R k34 34 wc w.heap.size (fun k_ => some k_ ≠ (v347 : Value).ownBlock ∧ some k_ ≠ ((.slice Ao22 t352.length co22) : Value).ownBlock ∧ some k_ ≠ (v356 : Value).ownBlock) (.slice Ao21 t349.length co21) t349) ∧ Aside0 (Kd.R k34 34 wc w.heap.size (fun k_ => some k_ ≠ (v347 : Value).ownBlock ∧ some k_ ≠ ((.slice Ao21 t349.length co21) : Value).ownBlock ∧ some k_ ≠ (v356 : Value).ownBlock) (.slice Ao22 t352.length co22) t352) ∧ Aside0 (Kd.R k34 34 wc w.heap.size (fun k_ => some k_ ≠ (v347 : Value).ownBlock ∧ some k_ ≠ ((.slice Ao21 t349.length co21) : Value).ownBlock ∧ some k_ ≠ ((.slice Ao22 t352.length co22) : Value).ownBlock) v356 t355) ∧ Aside0 (Below w.heap.size w wc))
      case first =>
        have H := HC13.out
        clear HC13
        replace H := Option.bind_eq_some_iff.mp H
        obtain ⟨t359, A240, H⟩ := H
        replace H : (if t359 = true then (laws_FnExactJoinBands.j0 k l0 l1 t345 t346 t349 t352 t355 t358 (t358 != t346)) else (laws_FnExactJoinBands.j0 k l0 l1 t345 t346 t349 t352 t355 t358 true)) = some r := H
        have A24 := Aside0.mk A240
        clear A240
        by_cases c25 : t359 = true
        · subst c25
          have H1 : (laws_FnExactJoinBands.j0 k l0 l1 t345 t346 t349 t352 t355 t358 (t358 != t346)) = some r := by rw [if_pos rfl] at H; exact H
          clear H
          have H := H1
          clear H1
          have H' := Aside0.mk H
          clear H
          obtain ⟨Ao26, co26, eo26⟩ := Kd.R_slice HO357.out
          subst eo26
          obtain ⟨Ao27, co27, eo27⟩ := Kd.R_slice HO348.out
          subst eo27
          go_wp2_with (first | ((with_reducible refine gate_callee (f := 19) rfl ?_); refine goesL_ (some 47) rfl rfl Try.func19 (by kernel_rfl) rfl #[.slice Ao26 t355.length co26, .slice Ao27 t345.length co27] rfl (by (try simp only [List.map_toArray, List.map_cons, List.map_nil]); first | done | rfl | (simp only [List.length_drop, List.length_take]; rfl)) ?_; (with_reducible refine (laws_eqPegS.calls k _ _ t355 _ _ t345 true _ ?side1 ?side2 ?side3 ?side4 A24.out).mono ?_); (case side1 => repeat (first | exact (Kd.R_reads' HO357.out).2.2 | (with_reducible refine Kd.C_alloc ?_ _) | (with_reducible refine Kd.C_drewN ?_ _) | (with_reducible refine Kd.C_drew ?_))); (case side2 => exact (Kd.R_reads' HO357.out).2.1); (case side3 => repeat (first | exact (Kd.R_reads' HO348.out).2.2 | (with_reducible refine Kd.C_alloc ?_ _) | (with_reducible refine Kd.C_drewN ?_ _) | (with_reducible refine Kd.C_drew ?_))); (case side4 => exact (Kd.R_reads' HO348.out).2.1); rintro e w28 ⟨rfl, hb⟩; refine ⟨_, rfl, ?_⟩; have n0_ := Aside0.mk (Kd.R_below (rk_ HO341.out) hb); have n1_ := Aside0.mk (Kd.R_below (rk_ HO344.out) hb); have n2_ := Aside0.mk (Kd.R_below (rk_ HO348.out) hb); have n3_ := Aside0.mk (Kd.R_below (rk_ HO351.out) hb); have n4_ := Aside0.mk (Kd.R_below (rk_ HO354.out) hb); have n5_ := Aside0.mk (Kd.R_below (rk_ HO357.out) hb); have n6_ := Aside0.mk (below_step (hb_) hb); clear HO341; clear HO344; clear HO348; clear HO351; clear HO354; clear HO357; clear HB; have HO341 := n0_; have HO344 := n1_; have HO348 := n2_; have HO351 := n3_; have HO354 := n4_; have HO357 := n5_; have HB := n6_; clear n0_ n1_ n2_ n3_ n4_ n5_ n6_; (try clear hb); (try clear hb2); (try clear hk); (try clear hi)))
          go_meet
          case rel => exact ⟨_, ((t358 != t346)), (by first | rfl | (simp; done) | (simp [*]; done)), H', ⟨by first | omega | exact Nat.le_refl _⟩, ⟨by (with_reducible repeat (first | apply Kd.R_alloc | apply Kd.R_drewN | apply Kd.R_drew)); exact Kd.R_mono HO348.out (fun _ hk => ⟨hk.1.1.2, ⟨hk.1.2, hk.2⟩⟩)⟩, ⟨by (with_reducible repeat (first | apply Kd.R_alloc | apply Kd.R_drewN | apply Kd.R_drew)); exact Kd.R_mono HO351.out (fun _ hk => ⟨hk.1.1.2, ⟨hk.1.2, hk.2⟩⟩)⟩, ⟨by (with_reducible repeat (first | apply Kd.R_alloc | apply Kd.R_drewN | apply Kd.R_drew)); exact Kd.R_mono HO354.out (fun _ hk => ⟨hk.1.1.2, ⟨hk.1.2, hk.2⟩⟩)⟩, ⟨by (with_reducible repeat (first | apply Kd.R_alloc | apply Kd.R_drewN | apply Kd.R_drew)); exact Kd.R_mono HO357.out (fun _ hk => ⟨hk.1.1.2, ⟨hk.1.2, hk.2⟩⟩)⟩, ⟨hb_⟩⟩
        · replace c25 := Bool.eq_false_iff.mpr c25
          subst c25
          have H1 : (laws_FnExactJoinBands.j0 k l0 l1 t345 t346 t349 t352 t355 t358 true) = some r := by rw [if_neg (show ¬ (false = true) by decide)] at H; exact H
          clear H
          have H := H1
          clear H1
          have H' := Aside0.mk H
          clear H
          obtain ⟨Ao29, co29, eo29⟩ := Kd.R_slice HO357.out
          subst eo29
          obtain ⟨Ao30, co30, eo30⟩ := Kd.R_slice HO348.out
          subst eo30
          go_wp2_with (first | ((with_reducible refine gate_callee (f := 19) rfl ?_); refine goesL_ (some 47) rfl rfl Try.func19 (by kernel_rfl) rfl #[.slice Ao29 t355.length co29, .slice Ao30 t345.length co30] rfl (by (try simp only [List.map_toArray, List.map_cons, List.map_nil]); first | done | rfl | (simp only [List.length_drop, List.length_take]; rfl)) ?_; (with_reducible refine (laws_eqPegS.calls k _ _ t355 _ _ t345 false _ ?side1 ?side2 ?side3 ?side4 A24.out).mono ?_); (case side1 => repeat (first | exact (Kd.R_reads' HO357.out).2.2 | (with_reducible refine Kd.C_alloc ?_ _) | (with_reducible refine Kd.C_drewN ?_ _) | (with_reducible refine Kd.C_drew ?_))); (case side2 => exact (Kd.R_reads' HO357.out).2.1); (case side3 => repeat (first | exact (Kd.R_reads' HO348.out).2.2 | (with_reducible refine Kd.C_alloc ?_ _) | (with_reducible refine Kd.C_drewN ?_ _) | (with_reducible refine Kd.C_drew ?_))); (case side4 => exact (Kd.R_reads' HO348.out).2.1); rintro e w31 ⟨rfl, hb⟩; refine ⟨_, rfl, ?_⟩; have n0_ := Aside0.mk (Kd.R_below (rk_ HO341.out) hb); have n1_ := Aside0.mk (Kd.R_below (rk_ HO344.out) hb); have n2_ := Aside0.mk (Kd.R_below (rk_ HO348.out) hb); have n3_ := Aside0.mk (Kd.R_below (rk_ HO351.out) hb); have n4_ := Aside0.mk (Kd.R_below (rk_ HO354.out) hb); have n5_ := Aside0.mk (Kd.R_below (rk_ HO357.out) hb); have n6_ := Aside0.mk (below_step (hb_) hb); clear HO341; clear HO344; clear HO348; clear HO351; clear HO354; clear HO357; clear HB; have HO341 := n0_; have HO344 := n1_; have HO348 := n2_; have HO351 := n3_; have HO354 := n4_; have HO357 := n5_; have HB := n6_; clear n0_ n1_ n2_ n3_ n4_ n5_ n6_; (try clear hb); (try clear hb2); (try clear hk); (try clear hi)))
          go_meet
          case rel => exact ⟨_, (true), (by first | rfl | (simp; done) | (simp [*]; done)), H', ⟨by first | omega | exact Nat.le_refl _⟩, ⟨by (with_reducible repeat (first | apply Kd.R_alloc | apply Kd.R_drewN | apply Kd.R_drew)); exact Kd.R_mono HO348.out (fun _ hk => ⟨hk.1.1.2, ⟨hk.1.2, hk.2⟩⟩)⟩, ⟨by (with_reducible repeat (first | apply Kd.R_alloc | apply Kd.R_drewN | apply Kd.R_drew)); exact Kd.R_mono HO351.out (fun _ hk => ⟨hk.1.1.2, ⟨hk.1.2, hk.2⟩⟩)⟩, ⟨by (with_reducible repeat (first | apply Kd.R_alloc | apply Kd.R_drewN | apply Kd.R_drew)); exact Kd.R_mono HO354.out (fun _ hk => ⟨hk.1.1.2, ⟨hk.1.2, hk.2⟩⟩)⟩, ⟨by (with_reducible repeat (first | apply Kd.R_alloc | apply Kd.R_drewN | apply Kd.R_drew)); exact Kd.R_mono HO357.out (fun _ hk => ⟨hk.1.1.2, ⟨hk.1.2, hk.2⟩⟩)⟩, ⟨hb_⟩⟩
      case rest =>
        clear HC13
        try clear c1
        try clear c2
        try clear p2
        try clear c3
        try clear c4
        try clear c4b0
        try clear c6
        try clear c6b0
        try clear c9
        try clear c15
        try clear c17
        try clear c19
        try clear c25
        obtain ⟨kq, x53_12, rfl, HA, HJ12, HO_6, HO_8, HO_9, HO_10, HB⟩ := hcut
        cases kq with
        | zero => exact absurd HA.out (by simp [laws_FnExactJoinBands.j0])
        | succ kj12 =>
          have H := HA.out
          clear HA
          simp only [laws_FnExactJoinBands.j0] at H
          by_cases c32 : x53_12 = true
          · subst c32
            have H1 : (some false) = some r := by rw [if_pos rfl] at H; exact H
            clear H
            have H := H1
            clear H1
            exact absurd (Option.some.inj H) (by rw [hr_]; decide)
          · replace c32 := Bool.eq_false_iff.mpr c32
            subst c32
            have H1 : ((laws_toPegS.f kj12 l0).bind fun t360 => ((laws_eqPegS.f kj12 t349 t360).bind fun t363 => (if t363 = true then ((laws_toPegS.f kj12 l1).bind fun t364 => ((laws_eqPegS.f kj12 t352 t364).bind fun t367 => (if t367 = true then ((laws_markPegS.f kj12 t349 1).bind fun bt368 => ((laws_markPegS.f kj12 t352 bt368.1).bind fun bt370 => (if bt370.1 < 0 then (laws_FnExactJoinBands.j1 kj12 l0 l1 t345 t346 t355 true) else ((laws_eqPegS.f kj12 t355 t345).bind fun t372 => (if t372 = true then (laws_FnExactJoinBands.j1 kj12 l0 l1 t345 t346 t355 (t358 != t346)) else (laws_FnExactJoinBands.j1 kj12 l0 l1 t345 t346 t355 true)))))) else (some false)))) else (some false)))) = some r := by rw [if_neg (show ¬ (false = true) by decide)] at H; exact H
            clear H
            have H := H1
            clear H1
            replace H := Option.bind_eq_some_iff.mp H
            obtain ⟨t360, A330, H⟩ := H
            replace H : ((laws_eqPegS.f kj12 t349 t360).bind fun t363 => (if t363 = true then ((laws_toPegS.f kj12 l1).bind fun t364 => ((laws_eqPegS.f kj12 t352 t364).bind fun t367 => (if t367 = true then ((laws_markPegS.f kj12 t349 1).bind fun bt368 => ((laws_markPegS.f kj12 t352 bt368.1).bind fun bt370 => (if bt370.1 < 0 then (laws_FnExactJoinBands.j1 kj12 l0 l1 t345 t346 t355 true) else ((laws_eqPegS.f kj12 t355 t345).bind fun t372 => (if t372 = true then (laws_FnExactJoinBands.j1 kj12 l0 l1 t345 t346 t355 (t358 != t346)) else (laws_FnExactJoinBands.j1 kj12 l0 l1 t345 t346 t355 true)))))) else (some false)))) else (some false))) = some r := H
            have A33 := Aside0.mk A330
            clear A330
            replace H := Option.bind_eq_some_iff.mp H
            obtain ⟨t363, A340, H⟩ := H
            replace H : (if t363 = true then ((laws_toPegS.f kj12 l1).bind fun t364 => ((laws_eqPegS.f kj12 t352 t364).bind fun t367 => (if t367 = true then ((laws_markPegS.f kj12 t349 1).bind fun bt368 => ((laws_markPegS.f kj12 t352 bt368.1).bind fun bt370 => (if bt370.1 < 0 then (laws_FnExactJoinBands.j1 kj12 l0 l1 t345 t346 t355 true) else ((laws_eqPegS.f kj12 t355 t345).bind fun t372 => (if t372 = true then (laws_FnExactJoinBands.j1 kj12 l0 l1 t345 t346 t355 (t358 != t346)) else (laws_FnExactJoinBands.j1 kj12 l0 l1 t345 t346 t355 true)))))) else (some false)))) else (some false)) = some r := H
            have A34 := Aside0.mk A340
            clear A340
            by_cases c35 : t363 = true
            · subst c35
              have H1 : ((laws_toPegS.f kj12 l1).bind fun t364 => ((laws_eqPegS.f kj12 t352 t364).bind fun t367 => (if t367 = true then ((laws_markPegS.f kj12 t349 1).bind fun bt368 => ((laws_markPegS.f kj12 t352 bt368.1).bind fun bt370 => (if bt370.1 < 0 then (laws_FnExactJoinBands.j1 kj12 l0 l1 t345 t346 t355 true) else ((laws_eqPegS.f kj12 t355 t345).bind fun t372 => (if t372 = true then (laws_FnExactJoinBands.j1 kj12 l0 l1 t345 t346 t355 (t358 != t346)) else (laws_FnExactJoinBands.j1 kj12 l0 l1 t345 t346 t355 true)))))) else (some false)))) = some r := by rw [if_pos rfl] at H; exact H
              clear H
              have H := H1
              clear H1
              replace H := Option.bind_eq_some_iff.mp H
              obtain ⟨t364, A360, H⟩ := H
              replace H : ((laws_eqPegS.f kj12 t352 t364).bind fun t367 => (if t367 = true then ((laws_markPegS.f kj12 t349 1).bind fun bt368 => ((laws_markPegS.f kj12 t352 bt368.1).bind fun bt370 => (if bt370.1 < 0 then (laws_FnExactJoinBands.j1 kj12 l0 l1 t345 t346 t355 true) else ((laws_eqPegS.f kj12 t355 t345).bind fun t372 => (if t372 = true then (laws_FnExactJoinBands.j1 kj12 l0 l1 t345 t346 t355 (t358 != t346)) else (laws_FnExactJoinBands.j1 kj12 l0 l1 t345 t346 t355 true)))))) else (some false))) = some r := H
              have A36 := Aside0.mk A360
              clear A360
              replace H := Option.bind_eq_some_iff.mp H
              obtain ⟨t367, A370, H⟩ := H
              replace H : (if t367 = true then ((laws_markPegS.f kj12 t349 1).bind fun bt368 => ((laws_markPegS.f kj12 t352 bt368.1).bind fun bt370 => (if bt370.1 < 0 then (laws_FnExactJoinBands.j1 kj12 l0 l1 t345 t346 t355 true) else ((laws_eqPegS.f kj12 t355 t345).bind fun t372 => (if t372 = true then (laws_FnExactJoinBands.j1 kj12 l0 l1 t345 t346 t355 (t358 != t346)) else (laws_FnExactJoinBands.j1 kj12 l0 l1 t345 t346 t355 true)))))) else (some false)) = some r := H
              have A37 := Aside0.mk A370
              clear A370
              by_cases c38 : t367 = true
              · subst c38
                have H1 : ((laws_markPegS.f kj12 t349 1).bind fun bt368 => ((laws_markPegS.f kj12 t352 bt368.1).bind fun bt370 => (if bt370.1 < 0 then (laws_FnExactJoinBands.j1 kj12 l0 l1 t345 t346 t355 true) else ((laws_eqPegS.f kj12 t355 t345).bind fun t372 => (if t372 = true then (laws_FnExactJoinBands.j1 kj12 l0 l1 t345 t346 t355 (t358 != t346)) else (laws_FnExactJoinBands.j1 kj12 l0 l1 t345 t346 t355 true)))))) = some r := by rw [if_pos rfl] at H; exact H
                clear H
                have H := H1
                clear H1
                replace H := Option.bind_eq_some_iff.mp H
                obtain ⟨⟨t368, t369⟩, A390, H⟩ := H
                replace H : ((laws_markPegS.f kj12 t352 t368).bind fun bt370 => (if bt370.1 < 0 then (laws_FnExactJoinBands.j1 kj12 l0 l1 t345 t346 t355 true) else ((laws_eqPegS.f kj12 t355 t345).bind fun t372 => (if t372 = true then (laws_FnExactJoinBands.j1 kj12 l0 l1 t345 t346 t355 (t358 != t346)) else (laws_FnExactJoinBands.j1 kj12 l0 l1 t345 t346 t355 true))))) = some r := H
                have A39 := Aside0.mk A390
                clear A390
                replace H := Option.bind_eq_some_iff.mp H
                obtain ⟨⟨t370, t371⟩, A400, H⟩ := H
                replace H : (if t370 < 0 then (laws_FnExactJoinBands.j1 kj12 l0 l1 t345 t346 t355 true) else ((laws_eqPegS.f kj12 t355 t345).bind fun t372 => (if t372 = true then (laws_FnExactJoinBands.j1 kj12 l0 l1 t345 t346 t355 (t358 != t346)) else (laws_FnExactJoinBands.j1 kj12 l0 l1 t345 t346 t355 true)))) = some r := H
                have A40 := Aside0.mk A400
                clear A400
                have HC41 := Aside0.mk H
                clear H
                go_upto_region 21 with (first | ((with_reducible refine gate_callee (f := 17) rfl ?_); refine goesL_ (some 56) rfl rfl Try.func17 (by kernel_rfl) rfl #[.slice A0 l0.length c0] rfl (by (try simp only [List.map_toArray, List.map_cons, List.map_nil]); first | done | rfl | (simp only [List.length_drop, List.length_take]; rfl)) ?_; (with_reducible refine (laws_toPegS.calls kj12 _ _ l0 t360 _ ?side1 ?side2 A33.out).mono ?_); (case side1 => repeat (first | exact (Kd.C_below HR0.out HB.out) | (with_reducible refine Kd.C_alloc ?_ _) | (with_reducible refine Kd.C_drewN ?_ _) | (with_reducible refine Kd.C_drew ?_))); (case side2 => exact HC0.out); rintro e w42 ⟨v361, rfl, ho0, hb⟩; refine ⟨_, rfl, ?_⟩; have n0_ := Aside0.mk (Kd.R_elder' (rk_ HO_6.out) (Kd.R_base ho0) hb); have n1_ := Aside0.mk (Kd.R_elder' (rk_ HO_8.out) (Kd.R_base ho0) hb); have n2_ := Aside0.mk (Kd.R_elder' (rk_ HO_9.out) (Kd.R_base ho0) hb); have n3_ := Aside0.mk (Kd.R_elder' (rk_ HO_10.out) (Kd.R_base ho0) hb); have n4_ := Aside0.mk (Kd.R_lower (Kd.R_new' (Kd.R_new' (Kd.R_new' (Kd.R_new' ho0 (Kd.R_lt (rk_ HO_6.out))) (Kd.R_lt (rk_ HO_8.out))) (Kd.R_lt (rk_ HO_9.out))) (Kd.R_lt (rk_ HO_10.out))) (below_size (hb_))); have n5_ := Aside0.mk (below_step (hb_) hb); clear HO_6; clear HO_8; clear HO_9; clear HO_10; clear HB; have HO_6 := n0_; have HO_8 := n1_; have HO_9 := n2_; have HO_10 := n3_; have HO362 := n4_; have HB := n5_; clear n0_ n1_ n2_ n3_ n4_ n5_; (try clear hb); (try clear hb2); (try clear hk); (try clear hi); (try clear ho0); obtain ⟨Ao43, co43, eo43⟩ := Kd.R_slice HO362.out; subst eo43) | ((with_reducible refine gate_callee (f := 19) rfl ?_); refine goesL_ (some 57) rfl rfl Try.func19 (by kernel_rfl) rfl #[.slice Ao21 t349.length co21, .slice Ao43 t360.length co43] rfl (by (try simp only [List.map_toArray, List.map_cons, List.map_nil]); first | done | rfl | (simp only [List.length_drop, List.length_take]; rfl)) ?_; (with_reducible refine (laws_eqPegS.calls kj12 _ _ t349 _ _ t360 true _ ?side1 ?side2 ?side3 ?side4 A34.out).mono ?_); (case side1 => repeat (first | exact (Kd.R_reads' HO_8.out).2.2 | (with_reducible refine Kd.C_alloc ?_ _) | (with_reducible refine Kd.C_drewN ?_ _) | (with_reducible refine Kd.C_drew ?_))); (case side2 => exact (Kd.R_reads' HO_8.out).2.1); (case side3 => repeat (first | exact (Kd.R_reads' HO362.out).2.2 | (with_reducible refine Kd.C_alloc ?_ _) | (with_reducible refine Kd.C_drewN ?_ _) | (with_reducible refine Kd.C_drew ?_))); (case side4 => exact (Kd.R_reads' HO362.out).2.1); rintro e w44 ⟨rfl, hb⟩; refine ⟨_, rfl, ?_⟩; have n0_ := Aside0.mk (Kd.R_below (rk_ HO_6.out) hb); have n1_ := Aside0.mk (Kd.R_below (rk_ HO_8.out) hb); have n2_ := Aside0.mk (Kd.R_below (rk_ HO_9.out) hb); have n3_ := Aside0.mk (Kd.R_below (rk_ HO_10.out) hb); have n4_ := Aside0.mk (Kd.R_below (rk_ HO362.out) hb); have n5_ := Aside0.mk (below_step (hb_) hb); clear HO_6; clear HO_8; clear HO_9; clear HO_10; clear HO362; clear HB; have HO_6 := n0_; have HO_8 := n1_; have HO_9 := n2_; have HO_10 := n3_; have HO362 := n4_; have HB := n5_; clear n0_ n1_ n2_ n3_ n4_ n5_; (try clear hb); (try clear hb2); (try clear hk); (try clear hi)) | ((with_reducible refine gate_callee (f := 17) rfl ?_); refine goesL_ (some 61) rfl rfl Try.func17 (by kernel_rfl) rfl #[.slice A1 l1.length c1] rfl (by (try simp only [List.map_toArray, List.map_cons, List.map_nil]); first | done | rfl | (simp only [List.length_drop, List.length_take]; rfl)) ?_; (with_reducible refine (laws_toPegS.calls kj12 _ _ l1 t364 _ ?side1 ?side2 A36.out).mono ?_); (case side1 => repeat (first | exact (Kd.C_below HR1.out HB.out) | (with_reducible refine Kd.C_alloc ?_ _) | (with_reducible refine Kd.C_drewN ?_ _) | (with_reducible refine Kd.C_drew ?_))); (case side2 => exact HC1.out); rintro e w45 ⟨v365, rfl, ho0, hb⟩; refine ⟨_, rfl, ?_⟩; have n0_ := Aside0.mk (Kd.R_elder' (rk_ HO_6.out) (Kd.R_base ho0) hb); have n1_ := Aside0.mk (Kd.R_elder' (rk_ HO_8.out) (Kd.R_base ho0) hb); have n2_ := Aside0.mk (Kd.R_elder' (rk_ HO_9.out) (Kd.R_base ho0) hb); have n3_ := Aside0.mk (Kd.R_elder' (rk_ HO_10.out) (Kd.R_base ho0) hb); have n4_ := Aside0.mk (Kd.R_elder' (rk_ HO362.out) (Kd.R_base ho0) hb); have n5_ := Aside0.mk (Kd.R_lower (Kd.R_new' (Kd.R_new' (Kd.R_new' (Kd.R_new' (Kd.R_new' ho0 (Kd.R_lt (rk_ HO_6.out))) (Kd.R_lt (rk_ HO_8.out))) (Kd.R_lt (rk_ HO_9.out))) (Kd.R_lt (rk_ HO_10.out))) (Kd.R_lt (rk_ HO362.out))) (below_size (hb_))); have n6_ := Aside0.mk (below_step (hb_) hb); clear HO_6; clear HO_8; clear HO_9; clear HO_10; clear HO362; clear HB; have HO_6 := n0_; have HO_8 := n1_; have HO_9 := n2_; have HO_10 := n3_; have HO362 := n4_; have HO366 := n5_; have HB := n6_; clear n0_ n1_ n2_ n3_ n4_ n5_ n6_; (try clear hb); (try clear hb2); (try clear hk); (try clear hi); (try clear ho0); obtain ⟨Ao46, co46, eo46⟩ := Kd.R_slice HO366.out; subst eo46) | ((with_reducible refine gate_callee (f := 19) rfl ?_); refine goesL_ (some 62) rfl rfl Try.func19 (by kernel_rfl) rfl #[.slice Ao22 t352.length co22, .slice Ao46 t364.length co46] rfl (by (try simp only [List.map_toArray, List.map_cons, List.map_nil]); first | done | rfl | (simp only [List.length_drop, List.length_take]; rfl)) ?_; (with_reducible refine (laws_eqPegS.calls kj12 _ _ t352 _ _ t364 true _ ?side1 ?side2 ?side3 ?side4 A37.out).mono ?_); (case side1 => repeat (first | exact (Kd.R_reads' HO_9.out).2.2 | (with_reducible refine Kd.C_alloc ?_ _) | (with_reducible refine Kd.C_drewN ?_ _) | (with_reducible refine Kd.C_drew ?_))); (case side2 => exact (Kd.R_reads' HO_9.out).2.1); (case side3 => repeat (first | exact (Kd.R_reads' HO366.out).2.2 | (with_reducible refine Kd.C_alloc ?_ _) | (with_reducible refine Kd.C_drewN ?_ _) | (with_reducible refine Kd.C_drew ?_))); (case side4 => exact (Kd.R_reads' HO366.out).2.1); rintro e w47 ⟨rfl, hb⟩; refine ⟨_, rfl, ?_⟩; have n0_ := Aside0.mk (Kd.R_below (rk_ HO_6.out) hb); have n1_ := Aside0.mk (Kd.R_below (rk_ HO_8.out) hb); have n2_ := Aside0.mk (Kd.R_below (rk_ HO_9.out) hb); have n3_ := Aside0.mk (Kd.R_below (rk_ HO_10.out) hb); have n4_ := Aside0.mk (Kd.R_below (rk_ HO362.out) hb); have n5_ := Aside0.mk (Kd.R_below (rk_ HO366.out) hb); have n6_ := Aside0.mk (below_step (hb_) hb); clear HO_6; clear HO_8; clear HO_9; clear HO_10; clear HO362; clear HO366; clear HB; have HO_6 := n0_; have HO_8 := n1_; have HO_9 := n2_; have HO_10 := n3_; have HO362 := n4_; have HO366 := n5_; have HB := n6_; clear n0_ n1_ n2_ n3_ n4_ n5_ n6_; (try clear hb); (try clear hb2); (try clear hk); (try clear hi)) | ((with_reducible refine gate_callee (f := 31) rfl ?_); refine goesL_ (some 66) rfl rfl Try.func31 (by kernel_rfl) rfl #[.slice Ao21 t349.length co21, .int .i64 1] rfl (by (try simp only [List.map_toArray, List.map_cons, List.map_nil]); first | done | rfl | (simp only [List.length_drop, List.length_take]; rfl)) ?_; (with_reducible refine (laws_markPegS.calls kj12 (fun k_ => some k_ = (.slice Ao21 t349.length co21 : Value).ownBlock) (.slice Ao21 t349.length co21) t349 1 t368 t369 w _ ?side1 ?side2 A39.out).mono ?_); (case side1 => repeat (first | (with_reducible first | exact HB.out | apply below_alloc | apply pw_below_drewN | apply below_drew1) | exact HB.out)); (case side2 => exact Kd.R_tight rfl HO_8.out); rintro e w48 ⟨rfl, hy0, hb, hkp⟩; refine ⟨_, rfl, ?_⟩; have n0_ := Aside0.mk (Kd.R_mono (ok' := fun k_ => some k_ ≠ (.slice Ao21 t349.length co21 : Value).ownBlock ∧ some k_ ≠ (.slice Ao22 t352.length co22 : Value).ownBlock ∧ some k_ ≠ (v356 : Value).ownBlock ∧ some k_ ≠ (.slice Ao43 t360.length co43 : Value).ownBlock ∧ some k_ ≠ (.slice Ao46 t364.length co46 : Value).ownBlock) (Kd.R_keptB (HO_6.out) hkp (fun k_ hk_ hs_ => (hk_.1.1.1) hs_)) (fun k_ hk_ => ⟨hk_.1.1.1.1, hk_.1.1.1.2.1, hk_.1.1.1.2.2, hk_.1.1.2, hk_.1.2⟩)); have n1_ := Aside0.mk (Kd.R_reok rfl hy0 (fun k_ e_ => HO_8.out.1 k_ e_)); have n2_ := Aside0.mk (Kd.R_mono (ok' := fun k_ => some k_ ≠ (v347 : Value).ownBlock ∧ some k_ ≠ (.slice Ao21 t349.length co21 : Value).ownBlock ∧ some k_ ≠ (v356 : Value).ownBlock ∧ some k_ ≠ (.slice Ao43 t360.length co43 : Value).ownBlock ∧ some k_ ≠ (.slice Ao46 t364.length co46 : Value).ownBlock) (Kd.R_keptB (HO_9.out) hkp (fun k_ hk_ hs_ => (hk_.1.1.2.1) hs_)) (fun k_ hk_ => ⟨hk_.1.1.1.1, hk_.1.1.1.2.1, hk_.1.1.1.2.2, hk_.1.1.2, hk_.1.2⟩)); have n3_ := Aside0.mk (Kd.R_mono (ok' := fun k_ => some k_ ≠ (v347 : Value).ownBlock ∧ some k_ ≠ (.slice Ao21 t349.length co21 : Value).ownBlock ∧ some k_ ≠ (.slice Ao22 t352.length co22 : Value).ownBlock ∧ some k_ ≠ (.slice Ao43 t360.length co43 : Value).ownBlock ∧ some k_ ≠ (.slice Ao46 t364.length co46 : Value).ownBlock) (Kd.R_keptB (HO_10.out) hkp (fun k_ hk_ hs_ => (hk_.1.1.2.1) hs_)) (fun k_ hk_ => ⟨hk_.1.1.1.1, hk_.1.1.1.2.1, hk_.1.1.1.2.2, hk_.1.1.2, hk_.1.2⟩)); have n4_ := Aside0.mk (Kd.R_mono (ok' := fun k_ => some k_ ≠ (v347 : Value).ownBlock ∧ some k_ ≠ (.slice Ao21 t349.length co21 : Value).ownBlock ∧ some k_ ≠ (.slice Ao22 t352.length co22 : Value).ownBlock ∧ some k_ ≠ (v356 : Value).ownBlock ∧ some k_ ≠ (.slice Ao46 t364.length co46 : Value).ownBlock) (Kd.R_keptB (HO362.out) hkp (fun k_ hk_ hs_ => (hk_.1.1.1.2) hs_)) (fun k_ hk_ => ⟨hk_.1.1.1.1.1.2, hk_.1.1.1.1.2, hk_.1.1.1.2, hk_.1.1.2, hk_.1.2⟩)); have n5_ := Aside0.mk (Kd.R_mono (ok' := fun k_ => some k_ ≠ (v347 : Value).ownBlock ∧ some k_ ≠ (.slice Ao21 t349.length co21 : Value).ownBlock ∧ some k_ ≠ (.slice Ao22 t352.length co22 : Value).ownBlock ∧ some k_ ≠ (v356 : Value).ownBlock ∧ some k_ ≠ (.slice Ao43 t360.length co43 : Value).ownBlock) (Kd.R_keptB (HO366.out) hkp (fun k_ hk_ hs_ => (hk_.1.1.1.2) hs_)) (fun k_ hk_ => ⟨hk_.1.1.1.1.1.2, hk_.1.1.1.1.2, hk_.1.1.1.2, hk_.1.1.2, hk_.1.2⟩)); have n6_ := Aside0.mk (hb); clear HO_6; clear HO_8; clear HO_9; clear HO_10; clear HO362; clear HO366; clear HB; have HO_6 := n0_; have HO_8 := n1_; have HO_9 := n2_; have HO_10 := n3_; have HO362 := n4_; have HO366 := n5_; have HB := n6_; clear n0_ n1_ n2_ n3_ n4_ n5_ n6_; (try clear hb); (try clear hkp); (try clear hy0)) | ((with_reducible refine gate_callee (f := 31) rfl ?_); refine goesL_ (some 69) rfl rfl Try.func31 (by kernel_rfl) rfl #[.slice Ao22 t352.length co22, .int .i64 t368] rfl (by (try simp only [List.map_toArray, List.map_cons, List.map_nil]); first | done | rfl | (simp only [List.length_drop, List.length_take]; rfl)) ?_; (with_reducible refine (laws_markPegS.calls kj12 (fun k_ => some k_ = (.slice Ao22 t352.length co22 : Value).ownBlock) (.slice Ao22 t352.length co22) t352 t368 t370 t371 w _ ?side1 ?side2 A40.out).mono ?_); (case side1 => repeat (first | (with_reducible first | exact HB.out | apply below_alloc | apply pw_below_drewN | apply below_drew1) | exact HB.out)); (case side2 => exact Kd.R_tight rfl HO_9.out); rintro e w49 ⟨rfl, hy0, hb, hkp⟩; refine ⟨_, rfl, ?_⟩; have n0_ := Aside0.mk (Kd.R_mono (ok' := fun k_ => some k_ ≠ (.slice Ao21 t349.length co21 : Value).ownBlock ∧ some k_ ≠ (.slice Ao22 t352.length co22 : Value).ownBlock ∧ some k_ ≠ (v356 : Value).ownBlock ∧ some k_ ≠ (.slice Ao43 t360.length co43 : Value).ownBlock ∧ some k_ ≠ (.slice Ao46 t364.length co46 : Value).ownBlock) (Kd.R_keptB (HO_6.out) hkp (fun k_ hk_ hs_ => (hk_.2.1) hs_)) (fun k_ hk_ => ⟨hk_.1.1, hk_.1.2.1, hk_.1.2.2.1, hk_.1.2.2.2.1, hk_.1.2.2.2.2⟩)); have n1_ := Aside0.mk (Kd.R_mono (ok' := fun k_ => some k_ ≠ (v347 : Value).ownBlock ∧ some k_ ≠ (.slice Ao22 t352.length co22 : Value).ownBlock ∧ some k_ ≠ (v356 : Value).ownBlock ∧ some k_ ≠ (.slice Ao43 t360.length co43 : Value).ownBlock ∧ some k_ ≠ (.slice Ao46 t364.length co46 : Value).ownBlock) (Kd.R_keptB (HO_8.out) hkp (fun k_ hk_ hs_ => (hk_.1.1.2.1) hs_)) (fun k_ hk_ => ⟨hk_.1.1.1.1, hk_.1.1.1.2.1, hk_.1.1.1.2.2, hk_.1.1.2, hk_.1.2⟩)); have n2_ := Aside0.mk (Kd.R_reok rfl hy0 (fun k_ e_ => HO_9.out.1 k_ e_)); have n3_ := Aside0.mk (Kd.R_mono (ok' := fun k_ => some k_ ≠ (v347 : Value).ownBlock ∧ some k_ ≠ (.slice Ao21 t349.length co21 : Value).ownBlock ∧ some k_ ≠ (.slice Ao22 t352.length co22 : Value).ownBlock ∧ some k_ ≠ (.slice Ao43 t360.length co43 : Value).ownBlock ∧ some k_ ≠ (.slice Ao46 t364.length co46 : Value).ownBlock) (Kd.R_keptB (HO_10.out) hkp (fun k_ hk_ hs_ => (hk_.2.2.1) hs_)) (fun k_ hk_ => ⟨hk_.1.1, hk_.1.2.1, hk_.1.2.2.1, hk_.1.2.2.2.1, hk_.1.2.2.2.2⟩)); have n4_ := Aside0.mk (Kd.R_mono (ok' := fun k_ => some k_ ≠ (v347 : Value).ownBlock ∧ some k_ ≠ (.slice Ao21 t349.length co21 : Value).ownBlock ∧ some k_ ≠ (.slice Ao22 t352.length co22 : Value).ownBlock ∧ some k_ ≠ (v356 : Value).ownBlock ∧ some k_ ≠ (.slice Ao46 t364.length co46 : Value).ownBlock) (Kd.R_keptB (HO362.out) hkp (fun k_ hk_ hs_ => (hk_.2.2.1) hs_)) (fun k_ hk_ => ⟨hk_.1.1, hk_.1.2.1, hk_.1.2.2.1, hk_.1.2.2.2.1, hk_.1.2.2.2.2⟩)); have n5_ := Aside0.mk (Kd.R_mono (ok' := fun k_ => some k_ ≠ (v347 : Value).ownBlock ∧ some k_ ≠ (.slice Ao21 t349.length co21 : Value).ownBlock ∧ some k_ ≠ (.slice Ao22 t352.length co22 : Value).ownBlock ∧ some k_ ≠ (v356 : Value).ownBlock ∧ some k_ ≠ (.slice Ao43 t360.length co43 : Value).ownBlock) (Kd.R_keptB (HO366.out) hkp (fun k_ hk_ hs_ => (hk_.2.2.1) hs_)) (fun k_ hk_ => ⟨hk_.1.1, hk_.1.2.1, hk_.1.2.2.1, hk_.1.2.2.2.1, hk_.1.2.2.2.2⟩)); have n6_ := Aside0.mk (hb); clear HO_6; clear HO_8; clear HO_9; clear HO_10; clear HO362; clear HO366; clear HB; have HO_6 := n0_; have HO_8 := n1_; have HO_9 := n2_; have HO_10 := n3_; have HO362 := n4_; have HO366 := n5_; have HB := n6_; clear n0_ n1_ n2_ n3_ n4_ n5_ n6_; (try clear hb); (try clear hkp); (try clear hy0)))
                (try simp only [Act.put, List.setIfInBounds_toArray, List.set_cons_zero, List.set_cons_succ])
                go_cut [82] (fun v82 wc => ∃ (kq : Nat) (x82_40 : Bool), v82 = .bool x82_40 ∧ Aside0 (laws_FnExactJoinBands.j1 kq l0 l1 t345 t346 t355 x82_40 = some r) ∧ Aside0 (kq ≤ kj12) ∧ Aside0 (Kd.R k34 34 wc w.heap.size (fun k_ => some k_ ≠ (v356 : Value).ownBlock) v347 t345) ∧ Aside0 (Kd.R k34 34 wc w.heap.size (fun k_ => some k_ ≠ (v347 : Value).ownBlock) v356 t355) ∧ Aside0 (Below w.heap.size w wc))
                case first =>
                  have H := HC41.out
                  clear HC41
                  by_cases c50 : t370 < 0
                  · rw [if_pos c50] at H
                    have c50b0 : decide (t370 < 0) = true := decide_eq_true c50
                    clear c50
                    (first | rw [c50b0] | (simp only [i64_w, i32_w]; rw [c50b0]) | skip)
                    have H' := Aside0.mk H
                    clear H
                    go_wp2
                    go_meet
                    case rel => exact ⟨_, (true), (by first | rfl | (simp; done) | (simp [*]; done)), H', ⟨by have := HJ12.out; first | omega | exact Nat.le_refl _⟩, ⟨by (with_reducible repeat (first | apply Kd.R_alloc | apply Kd.R_drewN | apply Kd.R_drew)); exact Kd.R_mono HO_6.out (fun _ hk => hk.2.2.1)⟩, ⟨by (with_reducible repeat (first | apply Kd.R_alloc | apply Kd.R_drewN | apply Kd.R_drew)); exact Kd.R_mono HO_10.out (fun _ hk => hk.1)⟩, ⟨hb_⟩⟩
                  · rw [if_neg c50] at H
                    have c50b0 : decide (t370 < 0) = false := decide_eq_false c50
                    clear c50
                    (first | rw [c50b0] | (simp only [i64_w, i32_w]; rw [c50b0]) | skip)
                    replace H := Option.bind_eq_some_iff.mp H
                    obtain ⟨t372, A510, H⟩ := H
                    replace H : (if t372 = true then (laws_FnExactJoinBands.j1 kj12 l0 l1 t345 t346 t355 (t358 != t346)) else (laws_FnExactJoinBands.j1 kj12 l0 l1 t345 t346 t355 true)) = some r := H
                    have A51 := Aside0.mk A510
                    clear A510
                    by_cases c52 : t372 = true
                    · subst c52
                      have H1 : (laws_FnExactJoinBands.j1 kj12 l0 l1 t345 t346 t355 (t358 != t346)) = some r := by rw [if_pos rfl] at H; exact H
                      clear H
                      have H := H1
                      clear H1
                      have H' := Aside0.mk H
                      clear H
                      obtain ⟨Ao53, co53, eo53⟩ := Kd.R_slice HO_10.out
                      subst eo53
                      obtain ⟨Ao54, co54, eo54⟩ := Kd.R_slice HO_6.out
                      subst eo54
                      go_wp2_with (first | (go_at_call 19; (with_reducible refine (laws_eqPegS.calls kj12 _ _ t355 _ _ t345 true _ ?side1 ?side2 ?side3 ?side4 A51.out).mono ?_); (case side1 => repeat (first | exact (Kd.R_reads' HO_10.out).2.2 | (with_reducible refine Kd.C_alloc ?_ _) | (with_reducible refine Kd.C_drewN ?_ _) | (with_reducible refine Kd.C_drew ?_))); (case side2 => exact (Kd.R_reads' HO_10.out).2.1); (case side3 => repeat (first | exact (Kd.R_reads' HO_6.out).2.2 | (with_reducible refine Kd.C_alloc ?_ _) | (with_reducible refine Kd.C_drewN ?_ _) | (with_reducible refine Kd.C_drew ?_))); (case side4 => exact (Kd.R_reads' HO_6.out).2.1); rintro e w55 ⟨rfl, hb⟩; have n0_ := Aside0.mk (Kd.R_below (rk_ HO_6.out) hb); have n1_ := Aside0.mk (Kd.R_below (rk_ HO_8.out) hb); have n2_ := Aside0.mk (Kd.R_below (rk_ HO_9.out) hb); have n3_ := Aside0.mk (Kd.R_below (rk_ HO_10.out) hb); have n4_ := Aside0.mk (Kd.R_below (rk_ HO362.out) hb); have n5_ := Aside0.mk (Kd.R_below (rk_ HO366.out) hb); have n6_ := Aside0.mk (below_step (hb_) hb); clear HO_6; clear HO_8; clear HO_9; clear HO_10; clear HO362; clear HO366; clear HB; have HO_6 := n0_; have HO_8 := n1_; have HO_9 := n2_; have HO_10 := n3_; have HO362 := n4_; have HO366 := n5_; have HB := n6_; clear n0_ n1_ n2_ n3_ n4_ n5_ n6_; (try clear hb); (try clear hb2); (try clear hk); (try clear hi)))
                      go_meet
                      case rel => exact ⟨_, ((t358 != t346)), (by first | rfl | (simp; done) | (simp [*]; done)), H', ⟨by have := HJ12.out; first | omega | exact Nat.le_refl _⟩, ⟨by (with_reducible repeat (first | apply Kd.R_alloc | apply Kd.R_drewN | apply Kd.R_drew)); exact Kd.R_mono HO_6.out (fun _ hk => hk.2.2.1)⟩, ⟨by (with_reducible repeat (first | apply Kd.R_alloc | apply Kd.R_drewN | apply Kd.R_drew)); exact Kd.R_mono HO_10.out (fun _ hk => hk.1)⟩, ⟨hb_⟩⟩
                    · replace c52 := Bool.eq_false_iff.mpr c52
                      subst c52
                      have H1 : (laws_FnExactJoinBands.j1 kj12 l0 l1 t345 t346 t355 true) = some r := by rw [if_neg (show ¬ (false = true) by decide)] at H; exact H
                      clear H
                      have H := H1
                      clear H1
                      have H' := Aside0.mk H
                      clear H
                      obtain ⟨Ao56, co56, eo56⟩ := Kd.R_slice HO_10.out
                      subst eo56
                      obtain ⟨Ao57, co57, eo57⟩ := Kd.R_slice HO_6.out
                      subst eo57
                      go_wp2_with (first | (go_at_call 19; (with_reducible refine (laws_eqPegS.calls kj12 _ _ t355 _ _ t345 false _ ?side1 ?side2 ?side3 ?side4 A51.out).mono ?_); (case side1 => repeat (first | exact (Kd.R_reads' HO_10.out).2.2 | (with_reducible refine Kd.C_alloc ?_ _) | (with_reducible refine Kd.C_drewN ?_ _) | (with_reducible refine Kd.C_drew ?_))); (case side2 => exact (Kd.R_reads' HO_10.out).2.1); (case side3 => repeat (first | exact (Kd.R_reads' HO_6.out).2.2 | (with_reducible refine Kd.C_alloc ?_ _) | (with_reducible refine Kd.C_drewN ?_ _) | (with_reducible refine Kd.C_drew ?_))); (case side4 => exact (Kd.R_reads' HO_6.out).2.1); rintro e w58 ⟨rfl, hb⟩; have n0_ := Aside0.mk (Kd.R_below (rk_ HO_6.out) hb); have n1_ := Aside0.mk (Kd.R_below (rk_ HO_8.out) hb); have n2_ := Aside0.mk (Kd.R_below (rk_ HO_9.out) hb); have n3_ := Aside0.mk (Kd.R_below (rk_ HO_10.out) hb); have n4_ := Aside0.mk (Kd.R_below (rk_ HO362.out) hb); have n5_ := Aside0.mk (Kd.R_below (rk_ HO366.out) hb); have n6_ := Aside0.mk (below_step (hb_) hb); clear HO_6; clear HO_8; clear HO_9; clear HO_10; clear HO362; clear HO366; clear HB; have HO_6 := n0_; have HO_8 := n1_; have HO_9 := n2_; have HO_10 := n3_; have HO362 := n4_; have HO366 := n5_; have HB := n6_; clear n0_ n1_ n2_ n3_ n4_ n5_ n6_; (try clear hb); (try clear hb2); (try clear hk); (try clear hi)))
                      go_meet
                      case rel => exact ⟨_, (true), (by first | rfl | (simp; done) | (simp [*]; done)), H', ⟨by have := HJ12.out; first | omega | exact Nat.le_refl _⟩, ⟨by (with_reducible repeat (first | apply Kd.R_alloc | apply Kd.R_drewN | apply Kd.R_drew)); exact Kd.R_mono HO_6.out (fun _ hk => hk.2.2.1)⟩, ⟨by (with_reducible repeat (first | apply Kd.R_alloc | apply Kd.R_drewN | apply Kd.R_drew)); exact Kd.R_mono HO_10.out (fun _ hk => hk.1)⟩, ⟨hb_⟩⟩
                case rest =>
                  clear HC41
                  try clear c1
                  try clear c2
                  try clear p2
                  try clear c3
                  try clear c4
                  try clear c4b0
                  try clear c5
                  try clear c6
                  try clear c6b0
                  try clear c9
                  try clear c15
                  try clear c17
                  try clear c19
                  try clear c25
                  try clear c31
                  try clear c32
                  try clear c33
                  try clear c34
                  try clear c35
                  try clear c38
                  try clear c50
                  try clear c50b0
                  try clear c52
                  try clear p2
                  obtain ⟨kq, x82_40, rfl, HA, HJ40, HO_6, HO_10, HB⟩ := hcut
                  cases kq with
                  | zero => exact absurd HA.out (by simp [laws_FnExactJoinBands.j1])
                  | succ kj40 =>
                    have H := HA.out
                    clear HA
                    simp only [laws_FnExactJoinBands.j1] at H
                    by_cases c59 : x82_40 = true
                    · subst c59
                      have H1 : (some false) = some r := by rw [if_pos rfl] at H; exact H
                      clear H
                      have H := H1
                      clear H1
                      exact absurd (Option.some.inj H) (by rw [hr_]; decide)
                    · replace c59 := Bool.eq_false_iff.mpr c59
                      subst c59
                      have H1 : ((laws_markPegS.f kj40 t355 1).bind fun bt373 => ((laws_heldPegS.f kj40 bt373.2 1).bind fun t375 => (if t375 < 0 then (some false) else (if t375 = bt373.1 then ((laws_toPegS.f kj40 l0).bind fun t376 => ((laws_toPegS.f kj40 l1).bind fun t379 => ((impl_JoinBands.f kj40 t376 t379).bind fun bt382 => ((laws_eqPegS.f kj40 bt382.1 t345).bind fun t386 => (if t386 = true then (laws_FnExactJoinBands.j2 kj40 bt373.2 bt373.1 (bt382.2 != t346)) else (laws_FnExactJoinBands.j2 kj40 bt373.2 bt373.1 true)))))) else (some false))))) = some r := by rw [if_neg (show ¬ (false = true) by decide)] at H; exact H
                      clear H
                      have H := H1
                      clear H1
                      replace H := Option.bind_eq_some_iff.mp H
                      obtain ⟨⟨t373, t374⟩, A600, H⟩ := H
                      replace H : ((laws_heldPegS.f kj40 t374 1).bind fun t375 => (if t375 < 0 then (some false) else (if t375 = t373 then ((laws_toPegS.f kj40 l0).bind fun t376 => ((laws_toPegS.f kj40 l1).bind fun t379 => ((impl_JoinBands.f kj40 t376 t379).bind fun bt382 => ((laws_eqPegS.f kj40 bt382.1 t345).bind fun t386 => (if t386 = true then (laws_FnExactJoinBands.j2 kj40 t374 t373 (bt382.2 != t346)) else (laws_FnExactJoinBands.j2 kj40 t374 t373 true)))))) else (some false)))) = some r := H
                      have A60 := Aside0.mk A600
                      clear A600
                      replace H := Option.bind_eq_some_iff.mp H
                      obtain ⟨t375, A610, H⟩ := H
                      replace H : (if t375 < 0 then (some false) else (if t375 = t373 then ((laws_toPegS.f kj40 l0).bind fun t376 => ((laws_toPegS.f kj40 l1).bind fun t379 => ((impl_JoinBands.f kj40 t376 t379).bind fun bt382 => ((laws_eqPegS.f kj40 bt382.1 t345).bind fun t386 => (if t386 = true then (laws_FnExactJoinBands.j2 kj40 t374 t373 (bt382.2 != t346)) else (laws_FnExactJoinBands.j2 kj40 t374 t373 true)))))) else (some false))) = some r := H
                      have A61 := Aside0.mk A610
                      clear A610
                      by_cases c62 : t375 < 0
                      · rw [if_pos c62] at H
                        have c62b0 : decide (t375 < 0) = true := decide_eq_true c62
                        clear c62
                        exact absurd (Option.some.inj H) (by rw [hr_]; decide)
                      · rw [if_neg c62] at H
                        have c62b0 : decide (t375 < 0) = false := decide_eq_false c62
                        clear c62
                        by_cases c63 : t375 = t373
                        · rw [if_pos c63] at H
                          have c63b0 : (t375 == t373) = true := beq_iff_eq.mpr c63
                          have c63b1 : (t375 != t373) = false := bne_eq_false_iff_eq.mpr c63
                          clear c63
                          replace H := Option.bind_eq_some_iff.mp H
                          obtain ⟨t376, A640, H⟩ := H
                          replace H : ((laws_toPegS.f kj40 l1).bind fun t379 => ((impl_JoinBands.f kj40 t376 t379).bind fun bt382 => ((laws_eqPegS.f kj40 bt382.1 t345).bind fun t386 => (if t386 = true then (laws_FnExactJoinBands.j2 kj40 t374 t373 (bt382.2 != t346)) else (laws_FnExactJoinBands.j2 kj40 t374 t373 true))))) = some r := H
                          have A64 := Aside0.mk A640
                          clear A640
                          replace H := Option.bind_eq_some_iff.mp H
                          obtain ⟨t379, A650, H⟩ := H
                          replace H : ((impl_JoinBands.f kj40 t376 t379).bind fun bt382 => ((laws_eqPegS.f kj40 bt382.1 t345).bind fun t386 => (if t386 = true then (laws_FnExactJoinBands.j2 kj40 t374 t373 (bt382.2 != t346)) else (laws_FnExactJoinBands.j2 kj40 t374 t373 true)))) = some r := H
                          have A65 := Aside0.mk A650
                          clear A650
                          replace H := Option.bind_eq_some_iff.mp H
                          obtain ⟨⟨t382, t385⟩, A660, H⟩ := H
                          replace H : ((laws_eqPegS.f kj40 t382 t345).bind fun t386 => (if t386 = true then (laws_FnExactJoinBands.j2 kj40 t374 t373 (t385 != t346)) else (laws_FnExactJoinBands.j2 kj40 t374 t373 true))) = some r := H
                          have A66 := Aside0.mk A660
                          clear A660
                          have HC67 := Aside0.mk H
                          clear H
                          obtain ⟨Ao68, co68, eo68⟩ := Kd.R_slice HO_10.out
                          subst eo68
                          go_upto_region 32 with (first | ((with_reducible refine gate_callee (f := 31) rfl ?_); refine goesL_ (some 85) rfl rfl Try.func31 (by kernel_rfl) rfl #[.slice Ao68 t355.length co68, .int .i64 1] rfl (by (try simp only [List.map_toArray, List.map_cons, List.map_nil]); first | done | rfl | (simp only [List.length_drop, List.length_take]; rfl)) ?_; (with_reducible refine (laws_markPegS.calls kj40 (fun k_ => some k_ = (.slice Ao68 t355.length co68 : Value).ownBlock) (.slice Ao68 t355.length co68) t355 1 t373 t374 w _ ?side1 ?side2 A60.out).mono ?_); (case side1 => repeat (first | (with_reducible first | exact HB.out | apply below_alloc | apply pw_below_drewN | apply below_drew1) | exact HB.out)); (case side2 => exact Kd.R_tight rfl HO_10.out); rintro e w69 ⟨rfl, hy0, hb, hkp⟩; refine ⟨_, rfl, ?_⟩; have n0_ := Aside0.mk (Kd.R_mono (ok' := fun k_ => some k_ ≠ (.slice Ao68 t355.length co68 : Value).ownBlock) (Kd.R_keptB (HO_6.out) hkp (fun k_ hk_ hs_ => (hk_) hs_)) (fun k_ hk_ => hk_.1)); have n1_ := Aside0.mk (Kd.R_reok rfl hy0 (fun k_ e_ => HO_10.out.1 k_ e_)); have n2_ := Aside0.mk (hb); clear HO_6; clear HO_10; clear HB; have HO_6 := n0_; have HO_10 := n1_; have HB := n2_; clear n0_ n1_ n2_; (try clear hb); (try clear hkp); (try clear hy0)) | ((with_reducible refine gate_callee (f := 32) rfl ?_); refine goesL_ (some 88) rfl rfl Try.func32 (by kernel_rfl) rfl #[.slice Ao68 t374.length co68, .int .i64 1] rfl (by (try simp only [List.map_toArray, List.map_cons, List.map_nil]); first | done | (rw [show t374.length = t355.length from (Kd.R_reads' HO_10.out).1.symm] <;> rfl) | rfl | (simp only [List.length_drop, List.length_take]; rfl)) ?_; (with_reducible refine (laws_heldPegS.calls kj40 _ _ t374 1 t375 _ ?side1 ?side2 A61.out).mono ?_); (case side1 => repeat (first | exact (Kd.R_reads' HO_10.out).2.2 | (with_reducible refine Kd.C_alloc ?_ _) | (with_reducible refine Kd.C_drewN ?_ _) | (with_reducible refine Kd.C_drew ?_))); (case side2 => rw [show t374.length = t355.length from (Kd.R_reads' HO_10.out).1.symm]; exact (Kd.R_reads' HO_10.out).2.1); rintro e w' ⟨rfl, ⟨nd, rfl⟩⟩; refine ⟨_, rfl, ?_⟩) | ((with_reducible refine gate_callee (f := 17) rfl ?_); refine goesL_ (some 96) rfl rfl Try.func17 (by kernel_rfl) rfl #[.slice A0 l0.length c0] rfl (by (try simp only [List.map_toArray, List.map_cons, List.map_nil]); first | done | rfl | (simp only [List.length_drop, List.length_take]; rfl)) ?_; (with_reducible refine (laws_toPegS.calls kj40 _ _ l0 t376 _ ?side1 ?side2 A64.out).mono ?_); (case side1 => repeat (first | exact (Kd.C_below HR0.out (hb_)) | (with_reducible refine Kd.C_alloc ?_ _) | (with_reducible refine Kd.C_drewN ?_ _) | (with_reducible refine Kd.C_drew ?_))); (case side2 => exact HC0.out); rintro e w70 ⟨v377, rfl, ho0, hb⟩; refine ⟨_, rfl, ?_⟩; have n0_ := Aside0.mk (Kd.R_elder' (rk_ HO_6.out) (Kd.R_base ho0) hb); have n1_ := Aside0.mk (Kd.R_elder' (rk_ HO_10.out) (Kd.R_base ho0) hb); have n2_ := Aside0.mk (Kd.R_lower (Kd.R_new' (Kd.R_new' ho0 (Kd.R_lt (rk_ HO_6.out))) (Kd.R_lt (rk_ HO_10.out))) (below_size (hb_))); have n3_ := Aside0.mk (below_step (hb_) hb); clear HO_6; clear HO_10; clear HB; have HO_6 := n0_; have HO_10 := n1_; have HO378 := n2_; have HB := n3_; clear n0_ n1_ n2_ n3_; (try clear hb); (try clear hb2); (try clear hk); (try clear hi); (try clear ho0)) | ((with_reducible refine gate_callee (f := 17) rfl ?_); refine goesL_ (some 98) rfl rfl Try.func17 (by kernel_rfl) rfl #[.slice A1 l1.length c1] rfl (by (try simp only [List.map_toArray, List.map_cons, List.map_nil]); first | done | rfl | (simp only [List.length_drop, List.length_take]; rfl)) ?_; (with_reducible refine (laws_toPegS.calls kj40 _ _ l1 t379 _ ?side1 ?side2 A65.out).mono ?_); (case side1 => repeat (first | exact (Kd.C_below HR1.out HB.out) | (with_reducible refine Kd.C_alloc ?_ _) | (with_reducible refine Kd.C_drewN ?_ _) | (with_reducible refine Kd.C_drew ?_))); (case side2 => exact HC1.out); rintro e w71 ⟨v380, rfl, ho0, hb⟩; refine ⟨_, rfl, ?_⟩; have n0_ := Aside0.mk (Kd.R_elder' (rk_ HO_6.out) (Kd.R_base ho0) hb); have n1_ := Aside0.mk (Kd.R_elder' (rk_ HO_10.out) (Kd.R_base ho0) hb); have n2_ := Aside0.mk (Kd.R_elder' (rk_ HO378.out) (Kd.R_base ho0) hb); have n3_ := Aside0.mk (Kd.R_lower (Kd.R_new' (Kd.R_new' (Kd.R_new' ho0 (Kd.R_lt (rk_ HO_6.out))) (Kd.R_lt (rk_ HO_10.out))) (Kd.R_lt (rk_ HO378.out))) (below_size (hb_))); have n4_ := Aside0.mk (below_step (hb_) hb); clear HO_6; clear HO_10; clear HO378; clear HB; have HO_6 := n0_; have HO_10 := n1_; have HO378 := n2_; have HO381 := n3_; have HB := n4_; clear n0_ n1_ n2_ n3_ n4_; (try clear hb); (try clear hb2); (try clear hk); (try clear hi); (try clear ho0); obtain ⟨Ao72, co72, eo72⟩ := Kd.R_slice HO378.out; subst eo72; obtain ⟨Ao73, co73, eo73⟩ := Kd.R_slice HO381.out; subst eo73) | ((with_reducible refine gate_callee (f := 34) rfl ?_); refine goesL_ (some 99) rfl rfl Try.func34 (by kernel_rfl) rfl #[.slice Ao72 t376.length co72, .slice Ao73 t379.length co73] rfl (by (try simp only [List.map_toArray, List.map_cons, List.map_nil]); first | done | rfl | (simp only [List.length_drop, List.length_take]; rfl)) ?_; (with_reducible refine (impl_JoinBands.calls kj40 (fun k_ => some k_ = (.slice Ao72 t376.length co72 : Value).ownBlock) _ _ t376 (fun k_ => some k_ = (.slice Ao73 t379.length co73 : Value).ownBlock) _ _ t379 t382 t385 _ ?side1 ?side2 A66.out).mono ?_); (case side1 => exact Kd.R_V (Kd.R_tight rfl (HO378.out))); (case side2 => exact Kd.R_V (Kd.R_tight rfl (HO381.out))); rintro e w74 ⟨v383, rfl, ho0, hb⟩; refine ⟨_, rfl, ?_⟩; have n0_ := Aside0.mk (Kd.R_elder' (rk_ HO_6.out) (Kd.R_base ho0) hb); have n1_ := Aside0.mk (Kd.R_elder' (rk_ HO_10.out) (Kd.R_base ho0) hb); have n2_ := Aside0.mk (Kd.R_elder' (rk_ HO378.out) (Kd.R_base ho0) hb); have n3_ := Aside0.mk (Kd.R_elder' (rk_ HO381.out) (Kd.R_base ho0) hb); have n4_ := Aside0.mk (Kd.R_lower (Kd.R_new' (Kd.R_new' (Kd.R_new' (Kd.R_new' (Kd.R_mono (ok' := fun k_ => True) ho0 (fun _ hk_ => trivial)) (Kd.R_lt (rk_ HO_6.out))) (Kd.R_lt (rk_ HO_10.out))) (Kd.R_lt (rk_ HO378.out))) (Kd.R_lt (rk_ HO381.out))) (below_size (hb_))); have n5_ := Aside0.mk (below_step (hb_) hb); clear HO_6; clear HO_10; clear HO378; clear HO381; clear HB; have HO_6 := n0_; have HO_10 := n1_; have HO378 := n2_; have HO381 := n3_; have HO384 := n4_; have HB := n5_; clear n0_ n1_ n2_ n3_ n4_ n5_; (try clear hb); (try clear hb2); (try clear hk); (try clear hi); (try clear ho0)))
                          (try simp only [Act.put, List.setIfInBounds_toArray, List.set_cons_zero, List.set_cons_succ])
                          go_cut [110] (fun v110 wc => ∃ (kq : Nat) (x110_66 : Bool), v110 = .bool x110_66 ∧ Aside0 (laws_FnExactJoinBands.j2 kq t374 t373 x110_66 = some r) ∧ Aside0 (kq ≤ kj40) ∧ Aside0 (Kd.R k34 34 wc w.heap.size (fun _ => True) (.slice Ao68 t355.length co68) t374) ∧ Aside0 (Below w.heap.size w wc))
                          case first =>
                            have H := HC67.out
                            clear HC67
                            replace H := Option.bind_eq_some_iff.mp H
                            obtain ⟨t386, A750, H⟩ := H
                            replace H : (if t386 = true then (laws_FnExactJoinBands.j2 kj40 t374 t373 (t385 != t346)) else (laws_FnExactJoinBands.j2 kj40 t374 t373 true)) = some r := H
                            have A75 := Aside0.mk A750
                            clear A750
                            by_cases c76 : t386 = true
                            · subst c76
                              have H1 : (laws_FnExactJoinBands.j2 kj40 t374 t373 (t385 != t346)) = some r := by rw [if_pos rfl] at H; exact H
                              clear H
                              have H := H1
                              clear H1
                              have H' := Aside0.mk H
                              clear H
                              obtain ⟨Ao77, co77, eo77⟩ := Kd.R_slice HO384.out
                              subst eo77
                              obtain ⟨Ao78, co78, eo78⟩ := Kd.R_slice HO_6.out
                              subst eo78
                              go_wp2_with (first | ((with_reducible refine gate_callee (f := 19) rfl ?_); refine goesL_ (some 104) rfl rfl Try.func19 (by kernel_rfl) rfl #[.slice Ao77 t382.length co77, .slice Ao78 t345.length co78] rfl (by (try simp only [List.map_toArray, List.map_cons, List.map_nil]); first | done | rfl | (simp only [List.length_drop, List.length_take]; rfl)) ?_; (with_reducible refine (laws_eqPegS.calls kj40 _ _ t382 _ _ t345 true _ ?side1 ?side2 ?side3 ?side4 A75.out).mono ?_); (case side1 => repeat (first | exact (Kd.R_reads' HO384.out).2.2 | (with_reducible refine Kd.C_alloc ?_ _) | (with_reducible refine Kd.C_drewN ?_ _) | (with_reducible refine Kd.C_drew ?_))); (case side2 => exact (Kd.R_reads' HO384.out).2.1); (case side3 => repeat (first | exact (Kd.R_reads' HO_6.out).2.2 | (with_reducible refine Kd.C_alloc ?_ _) | (with_reducible refine Kd.C_drewN ?_ _) | (with_reducible refine Kd.C_drew ?_))); (case side4 => exact (Kd.R_reads' HO_6.out).2.1); rintro e w79 ⟨rfl, hb⟩; refine ⟨_, rfl, ?_⟩; have n0_ := Aside0.mk (Kd.R_below (rk_ HO_6.out) hb); have n1_ := Aside0.mk (Kd.R_below (rk_ HO_10.out) hb); have n2_ := Aside0.mk (Kd.R_below (rk_ HO378.out) hb); have n3_ := Aside0.mk (Kd.R_below (rk_ HO381.out) hb); have n4_ := Aside0.mk (Kd.R_below (rk_ HO384.out) hb); have n5_ := Aside0.mk (below_step (hb_) hb); clear HO_6; clear HO_10; clear HO378; clear HO381; clear HO384; clear HB; have HO_6 := n0_; have HO_10 := n1_; have HO378 := n2_; have HO381 := n3_; have HO384 := n4_; have HB := n5_; clear n0_ n1_ n2_ n3_ n4_ n5_; (try clear hb); (try clear hb2); (try clear hk); (try clear hi)))
                              go_meet
                              case rel => exact ⟨_, ((t385 != t346)), (by first | rfl | (simp; done) | (simp [*]; done)), H', ⟨by have := HJ12.out; have := HJ40.out; first | omega | exact Nat.le_refl _⟩, ⟨by (with_reducible repeat (first | apply Kd.R_alloc | apply Kd.R_drewN | apply Kd.R_drew)); exact Kd.R_mono HO_10.out (fun _ hk => trivial)⟩, ⟨hb_⟩⟩
                            · replace c76 := Bool.eq_false_iff.mpr c76
                              subst c76
                              have H1 : (laws_FnExactJoinBands.j2 kj40 t374 t373 true) = some r := by rw [if_neg (show ¬ (false = true) by decide)] at H; exact H
                              clear H
                              have H := H1
                              clear H1
                              have H' := Aside0.mk H
                              clear H
                              obtain ⟨Ao80, co80, eo80⟩ := Kd.R_slice HO384.out
                              subst eo80
                              obtain ⟨Ao81, co81, eo81⟩ := Kd.R_slice HO_6.out
                              subst eo81
                              go_wp2_with (first | ((with_reducible refine gate_callee (f := 19) rfl ?_); refine goesL_ (some 104) rfl rfl Try.func19 (by kernel_rfl) rfl #[.slice Ao80 t382.length co80, .slice Ao81 t345.length co81] rfl (by (try simp only [List.map_toArray, List.map_cons, List.map_nil]); first | done | rfl | (simp only [List.length_drop, List.length_take]; rfl)) ?_; (with_reducible refine (laws_eqPegS.calls kj40 _ _ t382 _ _ t345 false _ ?side1 ?side2 ?side3 ?side4 A75.out).mono ?_); (case side1 => repeat (first | exact (Kd.R_reads' HO384.out).2.2 | (with_reducible refine Kd.C_alloc ?_ _) | (with_reducible refine Kd.C_drewN ?_ _) | (with_reducible refine Kd.C_drew ?_))); (case side2 => exact (Kd.R_reads' HO384.out).2.1); (case side3 => repeat (first | exact (Kd.R_reads' HO_6.out).2.2 | (with_reducible refine Kd.C_alloc ?_ _) | (with_reducible refine Kd.C_drewN ?_ _) | (with_reducible refine Kd.C_drew ?_))); (case side4 => exact (Kd.R_reads' HO_6.out).2.1); rintro e w82 ⟨rfl, hb⟩; refine ⟨_, rfl, ?_⟩; have n0_ := Aside0.mk (Kd.R_below (rk_ HO_6.out) hb); have n1_ := Aside0.mk (Kd.R_below (rk_ HO_10.out) hb); have n2_ := Aside0.mk (Kd.R_below (rk_ HO378.out) hb); have n3_ := Aside0.mk (Kd.R_below (rk_ HO381.out) hb); have n4_ := Aside0.mk (Kd.R_below (rk_ HO384.out) hb); have n5_ := Aside0.mk (below_step (hb_) hb); clear HO_6; clear HO_10; clear HO378; clear HO381; clear HO384; clear HB; have HO_6 := n0_; have HO_10 := n1_; have HO378 := n2_; have HO381 := n3_; have HO384 := n4_; have HB := n5_; clear n0_ n1_ n2_ n3_ n4_ n5_; (try clear hb); (try clear hb2); (try clear hk); (try clear hi)))
                              go_meet
                              case rel => exact ⟨_, (true), (by first | rfl | (simp; done) | (simp [*]; done)), H', ⟨by have := HJ12.out; have := HJ40.out; first | omega | exact Nat.le_refl _⟩, ⟨by (with_reducible repeat (first | apply Kd.R_alloc | apply Kd.R_drewN | apply Kd.R_drew)); exact Kd.R_mono HO_10.out (fun _ hk => trivial)⟩, ⟨hb_⟩⟩
                          case rest =>
                            clear HC67
                            try clear c1
                            try clear c2
                            try clear p2
                            try clear c3
                            try clear c4
                            try clear c4b0
                            try clear c5
                            try clear c6
                            try clear c6b0
                            try clear c7
                            try clear c9
                            try clear c15
                            try clear c17
                            try clear c19
                            try clear c25
                            try clear c31
                            try clear c32
                            try clear c33
                            try clear c34
                            try clear c35
                            try clear c38
                            try clear c50
                            try clear c50b0
                            try clear c52
                            try clear c59
                            try clear c62
                            try clear c62b0
                            try clear c63
                            try clear c63b0
                            try clear c63b1
                            try clear c76
                            try clear p2
                            obtain ⟨kq, x110_66, rfl, HA, HJ66, HO_10, HB⟩ := hcut
                            have hl10_66 := (Kd.R_reads' HO_10.out).1
                            rw [hl10_66] at HO_10
                            (try simp only [hl10_66])
                            cases kq with
                            | zero => exact absurd HA.out (by simp [laws_FnExactJoinBands.j2])
                            | succ kj66 =>
                              have H := HA.out
                              clear HA
                              simp only [laws_FnExactJoinBands.j2] at H
                              by_cases c83 : x110_66 = true
                              · subst c83
                                have H1 : (some false) = some r := by rw [if_pos rfl] at H; exact H
                                clear H
                                have H := H1
                                clear H1
                                exact absurd (Option.some.inj H) (by rw [hr_]; decide)
                              · replace c83 := Bool.eq_false_iff.mpr c83
                                subst c83
                                have H1 : ((laws_heldPegS.f kj66 t374 1).bind fun t387 => (if t387 < 0 then (some false) else (if t387 = t373 then (some true) else (some false)))) = some r := by rw [if_neg (show ¬ (false = true) by decide)] at H; exact H
                                clear H
                                have H := H1
                                clear H1
                                replace H := Option.bind_eq_some_iff.mp H
                                obtain ⟨t387, A840, H⟩ := H
                                replace H : (if t387 < 0 then (some false) else (if t387 = t373 then (some true) else (some false))) = some r := H
                                have A84 := Aside0.mk A840
                                clear A840
                                by_cases c85 : t387 < 0
                                · rw [if_pos c85] at H
                                  have c85b0 : decide (t387 < 0) = true := decide_eq_true c85
                                  clear c85
                                  exact absurd (Option.some.inj H) (by rw [hr_]; decide)
                                · rw [if_neg c85] at H
                                  have c85b0 : decide (t387 < 0) = false := decide_eq_false c85
                                  clear c85
                                  by_cases c86 : t387 = t373
                                  · rw [if_pos c86] at H
                                    have c86b0 : (t387 == t373) = true := beq_iff_eq.mpr c86
                                    have c86b1 : (t387 != t373) = false := bne_eq_false_iff_eq.mpr c86
                                    clear c86
                                    obtain rfl := Option.some.inj H
                                    go_wp2_with (first | ((with_reducible refine gate_callee (f := 32) rfl ?_); refine goesL_ (some 113) rfl rfl Try.func32 (by kernel_rfl) rfl #[.slice Ao68 t374.length co68, .int .i64 1] rfl (by (try simp only [List.map_toArray, List.map_cons, List.map_nil]); first | done | rfl | (simp only [List.length_drop, List.length_take]; rfl)) ?_; (with_reducible refine (laws_heldPegS.calls kj66 _ _ t374 1 t387 _ ?side1 ?side2 A84.out).mono ?_); (case side1 => repeat (first | exact (Kd.R_reads' HO_10.out).2.2 | (with_reducible refine Kd.C_alloc ?_ _) | (with_reducible refine Kd.C_drewN ?_ _) | (with_reducible refine Kd.C_drew ?_))); (case side2 => exact (Kd.R_reads' HO_10.out).2.1); rintro e w' ⟨rfl, ⟨nd, rfl⟩⟩; refine ⟨_, rfl, ?_⟩))
                                    go_ret
                                    exact ⟨by first | rfl | (simp [errW_none, errW_some] <;> rfl) | (simp [*, errW_none, errW_some] <;> rfl), hb_⟩
                                  · rw [if_neg c86] at H
                                    have c86b0 : (t387 == t373) = false := beq_eq_false_iff_ne.mpr c86
                                    have c86b1 : (t387 != t373) = true := bne_iff_ne.mpr c86
                                    exact absurd (Option.some.inj H) (by rw [hr_]; decide)
                        · rw [if_neg c63] at H
                          have c63b0 : (t375 == t373) = false := beq_eq_false_iff_ne.mpr c63
                          have c63b1 : (t375 != t373) = true := bne_iff_ne.mpr c63
                          exact absurd (Option.some.inj H) (by rw [hr_]; decide)
              · replace c38 := Bool.eq_false_iff.mpr c38
                subst c38
                have H1 : (some false) = some r := by rw [if_neg (show ¬ (false = true) by decide)] at H; exact H
                clear H
                have H := H1
                clear H1
                exact absurd (Option.some.inj H) (by rw [hr_]; decide)
            · replace c35 := Bool.eq_false_iff.mpr c35
              subst c35
              have H1 : (some false) = some r := by rw [if_neg (show ¬ (false = true) by decide)] at H; exact H
              clear H
              have H := H1
              clear H1
              exact absurd (Option.some.inj H) (by rw [hr_]; decide)

end Go.Proofs.Ytaclbccjcjdbpaa.MY
