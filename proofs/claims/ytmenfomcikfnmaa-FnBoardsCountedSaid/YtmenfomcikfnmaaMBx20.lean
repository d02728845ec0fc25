-- Written by a program of this session (wip/print/myprint.py) over the kit's printer; Lean checks it.
import Derived.Test.YtmenfomcikfnmaaMBx0
import Derived.Test.YtmenfomcikfnmaaMBx3
import Derived.Test.YtmenfomcikfnmaaMBx6
import Derived.Test.YtmenfomcikfnmaaMBx7
import Derived.Test.YtmenfomcikfnmaaMBx8
namespace Go.Proofs.Ytmenfomcikfnmaa.MB
open Go.RowKit Go.Proofs.YtmenfomcikfnmaaW.PrintWords Go.Proofs.YtmenfomcikfnmaaW.PrintLast Go.Proofs.YtmenfomcikfnmaaW.PrintMore Go.Proofs.YtmenfomcikfnmaaV
attribute [local go_sem] max2_int min2_int max_two min_two max_three min_three max_four min_four   -- for this text's walks alone
set_option linter.unusedVariables false
set_option linter.unusedSimpArgs false

/-! ### spec_DrawCountPairs: function 43 -/
def spec_DrawCountPairs.f (l0 : List Int) : Option (Int × Int × Int) := (spec_l1Cur_board.f l0 0 0 12).bind fun bt350 => ((spec_l1Cur_among.f l0 bt350.2.2.1 bt350.2.2.2 (([1, 1, 2, 3, 5, 11, 12, 13, 0] : List Int))).bind fun bt357 => (some (bt350.1, bt350.2.1, bt357.1)))
set_option maxHeartbeats 8000000 in
set_option maxRecDepth 100000 in
theorem spec_DrawCountPairs.calls (A0 : Option Addr) (c0 : Nat) (l0 : List Int) (r1 : Int) (r2 : Int) (r3 : Int) (w : World) (hr0 : Kd.C (Kd.int .u8) w A0 l0.length l0) (hc0 : l0.length ≤ c0) (h : spec_DrawCountPairs.f l0 = some (r1, r2, r3)) :
  Calls Try.prog 43 #[.slice A0 l0.length c0] w fun e w' => e = .returned (.tuple #[.int .i64 r1, .int .i64 r2, .int .i64 r3]) ∧ Below w.heap.size w w' := by
 have hu46 := Try.underlying46
 have HR0 := Aside0.mk hr0
 have HC0 := Aside0.mk hc0
 clear hr0 hc0
 have HB := Aside0.mk (Below.refl w.heap.size w)
 have H : ((spec_l1Cur_board.f l0 0 0 12).bind fun bt350 => ((spec_l1Cur_among.f l0 bt350.2.2.1 bt350.2.2.2 (([1, 1, 2, 3, 5, 11, 12, 13, 0] : List Int))).bind fun bt357 => (some (bt350.1, bt350.2.1, bt357.1)))) = some (r1, r2, r3) := h
 clear h
 replace H := Option.bind_eq_some_iff.mp H
 obtain ⟨⟨t350, t351, t352, t353⟩, A20, H⟩ := H
 replace H : ((spec_l1Cur_among.f l0 t352 t353 (([1, 1, 2, 3, 5, 11, 12, 13, 0] : List Int))).bind fun bt357 => (some (t350, t351, bt357.1))) = some (r1, r2, r3) := H
 have A2 := Aside0.mk A20
 clear A20
 obtain ⟨y354, hy354⟩ : ∃ y_ : List Int, y_ = (([1, 1, 2, 3, 5, 11, 12, 13, 0] : List Int)) := ⟨_, rfl⟩
 replace H : ((spec_l1Cur_among.f l0 t352 t353 y354).bind fun bt357 => (some (t350, t351, bt357.1))) = some (r1, r2, r3) := by first | (rw [hy354]; with_reducible exact H) | (have H2_ := (Option.bind_some _ _).symm.trans H; rw [hy354]; with_reducible exact H2_) | (have H2_ := (Option.bind_some _ _).symm.trans H; with_reducible exact H2_) | with_reducible exact H | (rw [hy354]; exact H) | exact H
 have Ny354 := Aside0.mk hy354
 clear hy354
 replace H := Option.bind_eq_some_iff.mp H
 obtain ⟨⟨t357, t358, t359⟩, A30, H⟩ := H
 replace H : (some (t350, t351, t357)) = some (r1, r2, r3) := H
 have A3 := Aside0.mk A30
 clear A30
 simp only [Option.some.injEq, Prod.mk.injEq] at H
 obtain ⟨rfl, rfl, rfl⟩ := H
 go_enter Try.func43, Try.ntmps43
 go_wp2_with (first | ((with_reducible refine gate_dst (N := 10) rfl ?_); refine box_event ?hg (N := 10) ?hd (cs := #[.slice A0 l0.length c0, .int .i64 0, .int .u64 0]) (t := 46) ?hr ?_; (case hd => rfl); (case hg => rfl); (case hr => first | (go_simp; done) | (go_simp; rfl)); intro gb349 hg w4 hbox hb; have n0_ := Aside0.mk (below_step (hb_) hb); have n1_ := Aside0.mk ((show IsS46 w w4 gb349 l0 0 0 from ⟨_, _, hbox, (by rw [hg]; exact (below_size (hb_)) : w.heap.size ≤ gb349), HR0.out⟩)); clear HB; have HB := n0_; have HI349 := n1_; clear n0_ n1_; clear hb hbox hg) | ((with_reducible refine gate_callee (f := 48) rfl ?_); refine goesL_ (some 13) rfl rfl Try.func48 (by kernel_rfl) rfl #[.pointer (some ⟨gb349, 0, none⟩), .int .i64 12] rfl ga_ ?_; (with_reducible refine (spec_l1Cur_board.calls gb349 l0 0 0 12 t350 t351 t352 t353 w _ ?side1 ?side2 A2.out).mono ?_); (case side1 => repeat (first | (with_reducible first | exact HI349.out | apply IsS46.alloc | apply IsS46.drewN | apply IsS46.drew | apply IsS46.set_1 | apply IsS46.set_2) | exact HI349.out)); (case side2 => repeat (first | (with_reducible first | exact HB.out | apply below_alloc | apply pw_below_drewN | apply below_drew1 | refine below_set ?_ (IsS46.ge HI349.out)) | exact HB.out)); rintro e w5 ⟨rfl, hi, hb, hk⟩; refine ⟨_, rfl, ?_⟩; have n0_ := Aside0.mk (hb); have n1_ := Aside0.mk (hi); clear HB; clear HI349; have HB := n0_; have HI349 := n1_; clear n0_ n1_; (try clear hb); (try clear hb2); (try clear hk); (try clear hi)) | ((with_reducible refine gate_dst (N := 19) rfl ?_); refine Kd.R_lit (Kd.int .i64) _ 3 ?hg (N := 19) ?hd (xs := ([1, 1, 2, 3, 5, 11, 12, 13, 0] : List Int)) (inner := [.int .i64 1, .int .i64 1, .int .i64 2, .int .i64 3, .int .i64 5, .int .i64 11, .int .i64 12, .int .i64 13, .int .i64 0]) (ok := fun _ => True) (okp := fun _ => True) ?hr ?hp (fun _ hk => hk) trivial (Below.refl _ _) (Nat.le_refl _) (by simp) ?_; (case hd => rfl); (case hg => rfl); (case hr => first | (go_simp; done) | (go_simp; rfl)); (case hp => exact (Reps.one (show Kd.M (Kd.int .i64) _ _ _ 1 [.int .i64 1] from rfl) (Reps.one (show Kd.M (Kd.int .i64) _ _ _ 1 [.int .i64 1] from rfl) (Reps.one (show Kd.M (Kd.int .i64) _ _ _ 2 [.int .i64 2] from rfl) (Reps.one (show Kd.M (Kd.int .i64) _ _ _ 3 [.int .i64 3] from rfl) (Reps.one (show Kd.M (Kd.int .i64) _ _ _ 5 [.int .i64 5] from rfl) (Reps.one (show Kd.M (Kd.int .i64) _ _ _ 11 [.int .i64 11] from rfl) (Reps.one (show Kd.M (Kd.int .i64) _ _ _ 12 [.int .i64 12] from rfl) (Reps.one (show Kd.M (Kd.int .i64) _ _ _ 13 [.int .i64 13] from rfl) (Reps.one (show Kd.M (Kd.int .i64) _ _ _ 0 [.int .i64 0] from rfl) (Reps.none _ _))))))))))); intro v355 w6 ho7 hb hg_ hnew_; clear hg_ hnew_; (first | rw [← Ny354.out] at ho7 | (simp only [Int.reduceToNat] at ho7; rw [← Ny354.out] at ho7)); have n0_ := Aside0.mk (Kd.R_lower ho7 (below_size (by repeat (first | (with_reducible first | exact HB.out | apply below_alloc | apply pw_below_drewN | apply below_drew1 | refine below_set ?_ (IsS46.ge HI349.out)) | exact HB.out)))); have n1_ := Aside0.mk (IsS46.below (by repeat (first | (with_reducible first | exact HI349.out | apply IsS46.alloc | apply IsS46.drewN | apply IsS46.drew | apply IsS46.set_1 | apply IsS46.set_2) | exact HI349.out)) hb); have n2_ := Aside0.mk (below_step (by repeat (first | (with_reducible first | exact HB.out | apply below_alloc | apply pw_below_drewN | apply below_drew1 | refine below_set ?_ (IsS46.ge HI349.out)) | exact HB.out)) hb); clear HI349; clear HB; have HO356 := n0_; have HI349 := n1_; have HB := n2_; clear n0_ n1_ n2_; clear hb ho7; obtain ⟨Ao8, co8, eo8⟩ := Kd.R_slice HO356.out; subst eo8) | ((with_reducible refine gate_callee (f := 90) rfl ?_); refine goesL_ (some 20) rfl rfl Try.func90 (by kernel_rfl) rfl #[.pointer (some ⟨gb349, 0, none⟩), .slice Ao8 y354.length co8] rfl ga_ ?_; (with_reducible refine (spec_l1Cur_among.calls gb349 l0 t352 t353 _ _ y354 t357 t358 t359 w _ ?side1 ?side2 ?side3 ?side4 ?side5 A3.out).mono ?_); (case side1 => repeat (first | (with_reducible first | exact HI349.out | apply IsS46.alloc | apply IsS46.drewN | apply IsS46.drew | apply IsS46.set_1 | apply IsS46.set_2) | exact HI349.out)); (case side2 => repeat (first | (with_reducible first | exact HB.out | apply below_alloc | apply pw_below_drewN | apply below_drew1 | refine below_set ?_ (IsS46.ge HI349.out)) | exact HB.out)); (case side3 => repeat (first | exact (Kd.R_reads' HO356.out).2.2 | (with_reducible refine Kd.C_alloc ?_ _) | (with_reducible refine Kd.C_drewN ?_ _) | (with_reducible refine Kd.C_drew ?_))); (case side4 => exact (Kd.R_reads' HO356.out).2.1); (case side5 => exact far_slice (IsS46.own_ne HI349.out HO356.out (by decide))); rintro e w9 ⟨rfl, hi, hb, hk⟩; refine ⟨_, rfl, ?_⟩; have n0_ := Aside0.mk (Kd.R_mono (Kd.R_keep (IsS46.apart (show IsS46 w _ gb349 l0 t352 t353 from by repeat (first | (with_reducible first | exact HI349.out | apply IsS46.alloc | apply IsS46.drewN | apply IsS46.drew | apply IsS46.set_1 | apply IsS46.set_2) | exact HI349.out)) (rk_ HO356.out) (by decide)) hk (fun _ h => h.2)) (fun _ h => h.1)); have n1_ := Aside0.mk (hb); have n2_ := Aside0.mk (hi); clear HO356; clear HB; clear HI349; have HO356 := n0_; have HB := n1_; have HI349 := n2_; clear n0_ n1_ n2_; (try clear hb); (try clear hb2); (try clear hk); (try clear hi)))
 go_ret3
 exact ⟨by first | rfl | (simp [errW_none, errW_some] <;> rfl) | (simp [*, errW_none, errW_some] <;> rfl), by repeat (first | (with_reducible first | exact HB.out | apply below_alloc | apply pw_below_drewN | apply below_drew1 | refine below_set ?_ (IsS46.ge HI349.out)) | exact HB.out)⟩

/-! ### spec_CountPairs: function 44 -/
def spec_CountPairs.f (k : Nat) (a0 : Int) (a1 : Int) (a2 : Int) : Option (Int × Bool) := (spec_ctBoard.f a0 a1 12).bind fun t360 => (if t360 = true then ((spec_l1In.f a2 1 12).bind fun t361 => (if t361 = true then ((spec_ctSteps.f k a0 a1 a2).bind fun t362 => (some (t362, true))) else (some (0, false)))) else (some (0, false)))
theorem spec_CountPairs.mono : ∀ a0 a1 a2 k, LeO (spec_CountPairs.f k a0 a1 a2) (spec_CountPairs.f (k + 1) a0 a1 a2) := by
 intro a0 a1 a2 k
 unfold spec_CountPairs.f
 repeat' first
   | (with_reducible exact spec_ctSteps.mono _ _ _ _)
   | (with_reducible exact LeO.refl _)
   | (with_reducible exact LeO.none _)
   | (with_reducible refine LeO.ite ?_ ?_)
   | (with_reducible refine LeO.bind ?_ (fun _ => ?_))
   | exact spec_ctSteps.mono _ _ _ _
   | exact LeO.none _
   | refine LeO.ite ?_ ?_
   | refine LeO.bind ?_ (fun _ => ?_)
set_option maxHeartbeats 8000000 in
set_option maxRecDepth 100000 in
theorem spec_CountPairs.calls (k : Nat) (a0 : Int) (a1 : Int) (a2 : Int) (r1 : Int) (r2 : Bool) (w : World) (h : spec_CountPairs.f k a0 a1 a2 = some (r1, r2)) :
  Calls Try.prog 44 #[.int .i64 a0, .int .i64 a1, .int .i64 a2] w fun e w' => e = .returned (.tuple #[.int .i64 r1, .bool r2]) ∧ Drawn0 w w' := by
 have H : ((spec_ctBoard.f a0 a1 12).bind fun t360 => (if t360 = true then ((spec_l1In.f a2 1 12).bind fun t361 => (if t361 = true then ((spec_ctSteps.f k a0 a1 a2).bind fun t362 => (some (t362, true))) else (some (0, false)))) else (some (0, false)))) = some (r1, r2) := h
 clear h
 replace H := Option.bind_eq_some_iff.mp H
 obtain ⟨t360, A40, H⟩ := H
 replace H : (if t360 = true then ((spec_l1In.f a2 1 12).bind fun t361 => (if t361 = true then ((spec_ctSteps.f k a0 a1 a2).bind fun t362 => (some (t362, true))) else (some (0, false)))) else (some (0, false))) = some (r1, r2) := H
 have A4 := Aside0.mk A40
 clear A40
 by_cases c5 : t360 = true
 ·subst c5
  have H1 : ((spec_l1In.f a2 1 12).bind fun t361 => (if t361 = true then ((spec_ctSteps.f k a0 a1 a2).bind fun t362 => (some (t362, true))) else (some (0, false)))) = some (r1, r2) := by rw [if_pos rfl] at H; exact H
  clear H
  have H := H1
  clear H1
  replace H := Option.bind_eq_some_iff.mp H
  obtain ⟨t361, A60, H⟩ := H
  replace H : (if t361 = true then ((spec_ctSteps.f k a0 a1 a2).bind fun t362 => (some (t362, true))) else (some (0, false))) = some (r1, r2) := H
  have A6 := Aside0.mk A60
  clear A60
  by_cases c7 : t361 = true
  ·subst c7
   have H1 : ((spec_ctSteps.f k a0 a1 a2).bind fun t362 => (some (t362, true))) = some (r1, r2) := by rw [if_pos rfl] at H; exact H
   clear H
   have H := H1
   clear H1
   replace H := Option.bind_eq_some_iff.mp H
   obtain ⟨t362, A80, H⟩ := H
   replace H : (some (t362, true)) = some (r1, r2) := H
   have A8 := Aside0.mk A80
   clear A80
   simp only [Option.some.injEq, Prod.mk.injEq] at H
   obtain ⟨rfl, rfl⟩ := H
   go_enter Try.func44, Try.ntmps44
   go_wp2_with (first | ((with_reducible refine gate_callee (f := 57) rfl ?_); refine goesL_ (some 10) rfl rfl Try.func57 (by kernel_rfl) rfl #[.int .i64 a0, .int .i64 a1, .int .i64 12] rfl ga_ ?_; (with_reducible refine (spec_ctBoard.calls a0 a1 12 true _ A4.out).mono ?_); rintro e w' ⟨rfl, ⟨nd, rfl⟩⟩; refine ⟨_, rfl, ?_⟩) | (go_at_call 91; (with_reducible refine (spec_l1In.calls a2 1 12 true _ A6.out).mono ?_); rintro e w' ⟨rfl, ⟨nd, rfl⟩⟩) | ((with_reducible refine gate_callee (f := 94) rfl ?_); refine goesL_ (some 20) rfl rfl Try.func94 (by kernel_rfl) rfl #[.int .i64 a0, .int .i64 a1, .int .i64 a2] rfl ga_ ?_; (with_reducible refine (spec_ctSteps.calls k a0 a1 a2 t362 _ A8.out).mono ?_); rintro e w' ⟨rfl, ⟨nd, rfl⟩⟩; refine ⟨_, rfl, ?_⟩))
   go_ret2
   exact ⟨by first | rfl | (simp; done) | (simp [*]; done), by repeat (first | exact Drawn0.refl _ | apply Drawn0.step)⟩
  ·replace c7 := Bool.eq_false_iff.mpr c7
   subst c7
   have H1 : (some (0, false)) = some (r1, r2) := by rw [if_neg (show ¬ (false = true) by decide)] at H; exact H
   clear H
   have H := H1
   clear H1
   simp only [Option.some.injEq, Prod.mk.injEq] at H
   obtain ⟨rfl, rfl⟩ := H
   go_enter Try.func44, Try.ntmps44
   go_wp2_with (first | ((with_reducible refine gate_callee (f := 57) rfl ?_); refine goesL_ (some 10) rfl rfl Try.func57 (by kernel_rfl) rfl #[.int .i64 a0, .int .i64 a1, .int .i64 12] rfl ga_ ?_; (with_reducible refine (spec_ctBoard.calls a0 a1 12 true _ A4.out).mono ?_); rintro e w' ⟨rfl, ⟨nd, rfl⟩⟩; refine ⟨_, rfl, ?_⟩) | (go_at_call 91; (with_reducible refine (spec_l1In.calls a2 1 12 false _ A6.out).mono ?_); rintro e w' ⟨rfl, ⟨nd, rfl⟩⟩))
   go_ret2
   exact ⟨by first | rfl | (simp; done) | (simp [*]; done), by repeat (first | exact Drawn0.refl _ | apply Drawn0.step)⟩
 ·replace c5 := Bool.eq_false_iff.mpr c5
  subst c5
  have H1 : (some (0, false)) = some (r1, r2) := by rw [if_neg (show ¬ (false = true) by decide)] at H; exact H
  clear H
  have H := H1
  clear H1
  simp only [Option.some.injEq, Prod.mk.injEq] at H
  obtain ⟨rfl, rfl⟩ := H
  go_enter Try.func44, Try.ntmps44
  go_wp2_with (first | ((with_reducible refine gate_callee (f := 57) rfl ?_); refine goesL_ (some 10) rfl rfl Try.func57 (by kernel_rfl) rfl #[.int .i64 a0, .int .i64 a1, .int .i64 12] rfl ga_ ?_; (with_reducible refine (spec_ctBoard.calls a0 a1 12 false _ A4.out).mono ?_); rintro e w' ⟨rfl, ⟨nd, rfl⟩⟩; refine ⟨_, rfl, ?_⟩))
  go_ret2
  exact ⟨by first | rfl | (simp; done) | (simp [*]; done), by repeat (first | exact Drawn0.refl _ | apply Drawn0.step)⟩

/-! ### spec_DrawPegsSeen: function 45 -/
def spec_DrawPegsSeen.f (l0 : List Int) : Option (Int × Int × Int × Int) := (spec_l1Cur_board.f l0 0 0 12).bind fun bt365 => ((spec_l1Cur_pick.f l0 bt365.2.2.1 bt365.2.2.2 13).bind fun bt369 => ((spec_l1Cur_pick.f l0 bt369.2.1 bt369.2.2 2).bind fun bt372 => ((spec_l1Cur_pick.f l0 bt372.2.1 bt372.2.2 8).bind fun bt375 => (some (bt365.1, bt365.2.1, wrap64 (bt369.1 - bt372.1), bt375.1)))))
set_option maxHeartbeats 8000000 in
set_option maxRecDepth 100000 in
theorem spec_DrawPegsSeen.calls (A0 : Option Addr) (c0 : Nat) (l0 : List Int) (r1 : Int) (r2 : Int) (r3 : Int) (r4 : Int) (w : World) (hr0 : Kd.C (Kd.int .u8) w A0 l0.length l0) (hc0 : l0.length ≤ c0) (h : spec_DrawPegsSeen.f l0 = some (r1, r2, r3, r4)) :
  Calls Try.prog 45 #[.slice A0 l0.length c0] w fun e w' => e = .returned (.tuple #[.int .i64 r1, .int .i64 r2, .agg #[.int .i64 r3, .int .i64 r4]]) ∧ Below w.heap.size w w' := by
 have hu36 := Try.underlying36
 have hu46 := Try.underlying46
 have HR0 := Aside0.mk hr0
 have HC0 := Aside0.mk hc0
 clear hr0 hc0
 have HB := Aside0.mk (Below.refl w.heap.size w)
 have H : ((spec_l1Cur_board.f l0 0 0 12).bind fun bt365 => ((spec_l1Cur_pick.f l0 bt365.2.2.1 bt365.2.2.2 13).bind fun bt369 => ((spec_l1Cur_pick.f l0 bt369.2.1 bt369.2.2 2).bind fun bt372 => ((spec_l1Cur_pick.f l0 bt372.2.1 bt372.2.2 8).bind fun bt375 => (some (bt365.1, bt365.2.1, wrap64 (bt369.1 - bt372.1), bt375.1)))))) = some (r1, r2, r3, r4) := h
 clear h
 replace H := Option.bind_eq_some_iff.mp H
 obtain ⟨⟨t365, t366, t367, t368⟩, A20, H⟩ := H
 replace H : ((spec_l1Cur_pick.f l0 t367 t368 13).bind fun bt369 => ((spec_l1Cur_pick.f l0 bt369.2.1 bt369.2.2 2).bind fun bt372 => ((spec_l1Cur_pick.f l0 bt372.2.1 bt372.2.2 8).bind fun bt375 => (some (t365, t366, wrap64 (bt369.1 - bt372.1), bt375.1))))) = some (r1, r2, r3, r4) := H
 have A2 := Aside0.mk A20
 clear A20
 replace H := Option.bind_eq_some_iff.mp H
 obtain ⟨⟨t369, t370, t371⟩, A30, H⟩ := H
 replace H : ((spec_l1Cur_pick.f l0 t370 t371 2).bind fun bt372 => ((spec_l1Cur_pick.f l0 bt372.2.1 bt372.2.2 8).bind fun bt375 => (some (t365, t366, wrap64 (t369 - bt372.1), bt375.1)))) = some (r1, r2, r3, r4) := H
 have A3 := Aside0.mk A30
 clear A30
 replace H := Option.bind_eq_some_iff.mp H
 obtain ⟨⟨t372, t373, t374⟩, A40, H⟩ := H
 replace H : ((spec_l1Cur_pick.f l0 t373 t374 8).bind fun bt375 => (some (t365, t366, wrap64 (t369 - t372), bt375.1))) = some (r1, r2, r3, r4) := H
 have A4 := Aside0.mk A40
 clear A40
 replace H := Option.bind_eq_some_iff.mp H
 obtain ⟨⟨t375, t376, t377⟩, A50, H⟩ := H
 replace H : (some (t365, t366, wrap64 (t369 - t372), t375)) = some (r1, r2, r3, r4) := H
 have A5 := Aside0.mk A50
 clear A50
 simp only [Option.some.injEq, Prod.mk.injEq] at H
 obtain ⟨rfl, rfl, rfl, rfl⟩ := H
 go_enter Try.func45, Try.ntmps45
 go_wp2_with (first | ((with_reducible refine gate_dst (N := 4) rfl ?_); refine box_event ?hg (N := 4) ?hd (cs := #[.int .i64 0, .int .i64 0]) (t := 36) ?hr ?_; (case hd => rfl); (case hg => rfl); (case hr => first | (go_simp; done) | (go_simp; rfl)); intro gb363 hg w6 hbox hb; have n0_ := Aside0.mk (below_step (hb_) hb); have n1_ := Aside0.mk (hbox); have n2_ := Aside0.mk ((by rw [hg]; exact (below_size (hb_)) : w.heap.size ≤ gb363)); have n3_ := Aside0.mk ((by rw [hg]; exact (below_size (hb_)) : w.heap.size ≤ gb363)); clear HB; have HB := n0_; have BK363 := n1_; have GW363 := n2_; have GE363 := n3_; clear n0_ n1_ n2_ n3_; clear hb hbox hg) | ((with_reducible refine gate_dst (N := 10) rfl ?_); refine box_event ?hg (N := 10) ?hd (cs := #[.slice A0 l0.length c0, .int .i64 0, .int .u64 0]) (t := 46) ?hr ?_; (case hd => rfl); (case hg => rfl); (case hr => first | (go_simp; done) | (go_simp; rfl)); intro gb364 hg w7 hbox hb; have n0_ := bb_ BK363 hb; have n1_ := Aside0.mk (below_step (hbg_) hb); have n2_ := Aside0.mk ((show IsS46 w w7 gb364 l0 0 0 from ⟨_, _, hbox, (by rw [hg]; exact (below_size (hbg_)) : w.heap.size ≤ gb364), HR0.out⟩)); have n3_ := Aside0.mk ((by rw [hg]; exact Nat.ne_of_lt (blk_lt (bk_ BK363.out)) : gb363 ≠ gb364)); have n4_ := Aside0.mk ((by rw [hg]; exact Nat.ne_of_gt (blk_lt (bk_ BK363.out)) : gb364 ≠ gb363)); clear BK363; clear HB; have BK363 := n0_; have HB := n1_; have HI364 := n2_; have NB363_364 := n3_; have NB364_363 := n4_; clear n0_ n1_ n2_ n3_ n4_; clear hb hbox hg) | ((with_reducible refine gate_callee (f := 48) rfl ?_); refine goesL_ (some 13) rfl rfl Try.func48 (by kernel_rfl) rfl #[.pointer (some ⟨gb364, 0, none⟩), .int .i64 12] rfl ga_ ?_; (with_reducible refine (spec_l1Cur_board.calls gb364 l0 0 0 12 t365 t366 t367 t368 w _ ?side1 ?side2 A2.out).mono ?_); (case side1 => repeat (first | (with_reducible first | exact HI364.out | apply IsS46.alloc | apply IsS46.drewN | apply IsS46.drew | apply IsS46.set_1 | apply IsS46.set_2 | refine IsS46.far ?_ NB364_363.out _ | apply IsS46.far (p := ⟨_, _, _⟩) (hne := NB364_363.out)) | exact HI364.out)); (case side2 => repeat (first | (with_reducible first | exact HB.out | apply below_alloc | apply pw_below_drewN | apply below_drew1 | refine below_set ?_ (IsS46.ge HI364.out) | refine below_set ?_ GE363.out) | exact HB.out)); rintro e w8 ⟨rfl, hi, hb, hk⟩; refine ⟨_, rfl, ?_⟩; have n0_ := Aside0.mk (KeepBut.blk hk (g' := gb363) (o := .cells #[.int .i64 0, .int .i64 0] 36 (0, 0)) (bk_ BK363.out) NB363_364.out (by simp)); have n1_ := Aside0.mk (hb); have n2_ := Aside0.mk (hi); clear BK363; clear HB; clear HI364; have BK363 := n0_; have HB := n1_; have HI364 := n2_; clear n0_ n1_ n2_; (try clear hb); (try clear hb2); (try clear hk); (try clear hi)) | ((with_reducible refine gate_callee (f := 50) rfl ?_); refine goesL_ (some 19) rfl rfl Try.func50 (by kernel_rfl) rfl #[.pointer (some ⟨gb364, 0, none⟩), .int .i64 13] rfl ga_ ?_; (with_reducible refine (spec_l1Cur_pick.calls gb364 l0 t367 t368 13 t369 t370 t371 w _ ?side1 ?side2 A3.out).mono ?_); (case side1 => repeat (first | (with_reducible first | exact HI364.out | apply IsS46.alloc | apply IsS46.drewN | apply IsS46.drew | apply IsS46.set_1 | apply IsS46.set_2 | refine IsS46.far ?_ NB364_363.out _ | apply IsS46.far (p := ⟨_, _, _⟩) (hne := NB364_363.out)) | exact HI364.out)); (case side2 => repeat (first | (with_reducible first | exact HB.out | apply below_alloc | apply pw_below_drewN | apply below_drew1 | refine below_set ?_ (IsS46.ge HI364.out) | refine below_set ?_ GE363.out) | exact HB.out)); rintro e w9 ⟨rfl, hi, hb, hk⟩; refine ⟨_, rfl, ?_⟩; have n0_ := Aside0.mk (KeepBut.blk hk (g' := gb363) (o := .cells #[.int .i64 0, .int .i64 0] 36 (0, 0)) (bk_ BK363.out) NB363_364.out (by simp)); have n1_ := Aside0.mk (hb); have n2_ := Aside0.mk (hi); clear BK363; clear HB; clear HI364; have BK363 := n0_; have HB := n1_; have HI364 := n2_; clear n0_ n1_ n2_; (try clear hb); (try clear hb2); (try clear hk); (try clear hi)) | ((with_reducible refine gate_callee (f := 50) rfl ?_); refine goesL_ (some 21) rfl rfl Try.func50 (by kernel_rfl) rfl #[.pointer (some ⟨gb364, 0, none⟩), .int .i64 2] rfl ga_ ?_; (with_reducible refine (spec_l1Cur_pick.calls gb364 l0 t370 t371 2 t372 t373 t374 w _ ?side1 ?side2 A4.out).mono ?_); (case side1 => repeat (first | (with_reducible first | exact HI364.out | apply IsS46.alloc | apply IsS46.drewN | apply IsS46.drew | apply IsS46.set_1 | apply IsS46.set_2 | refine IsS46.far ?_ NB364_363.out _ | apply IsS46.far (p := ⟨_, _, _⟩) (hne := NB364_363.out)) | exact HI364.out)); (case side2 => repeat (first | (with_reducible first | exact HB.out | apply below_alloc | apply pw_below_drewN | apply below_drew1 | refine below_set ?_ (IsS46.ge HI364.out) | refine below_set ?_ GE363.out) | exact HB.out)); rintro e w10 ⟨rfl, hi, hb, hk⟩; refine ⟨_, rfl, ?_⟩; have n0_ := Aside0.mk (KeepBut.blk hk (g' := gb363) (o := .cells #[.int .i64 0, .int .i64 0] 36 (0, 0)) (bk_ BK363.out) NB363_364.out (by simp)); have n1_ := Aside0.mk (hb); have n2_ := Aside0.mk (hi); clear BK363; clear HB; clear HI364; have BK363 := n0_; have HB := n1_; have HI364 := n2_; clear n0_ n1_ n2_; (try clear hb); (try clear hb2); (try clear hk); (try clear hi)) | ((with_reducible refine gate_callee (f := 50) rfl ?_); refine goesL_ (some 24) rfl rfl Try.func50 (by kernel_rfl) rfl #[.pointer (some ⟨gb364, 0, none⟩), .int .i64 8] rfl ga_ ?_; (with_reducible refine (spec_l1Cur_pick.calls gb364 l0 t373 t374 8 t375 t376 t377 w _ ?side1 ?side2 A5.out).mono ?_); (case side1 => repeat (first | (with_reducible first | exact HI364.out | apply IsS46.alloc | apply IsS46.drewN | apply IsS46.drew | apply IsS46.set_1 | apply IsS46.set_2 | refine IsS46.far ?_ NB364_363.out _ | apply IsS46.far (p := ⟨_, _, _⟩) (hne := NB364_363.out)) | exact HI364.out)); (case side2 => repeat (first | (with_reducible first | exact HB.out | apply below_alloc | apply pw_below_drewN | apply below_drew1 | refine below_set ?_ (IsS46.ge HI364.out) | refine below_set ?_ GE363.out) | exact HB.out)); rintro e w11 ⟨rfl, hi, hb, hk⟩; refine ⟨_, rfl, ?_⟩; have n0_ := Aside0.mk (KeepBut.blk hk (g' := gb363) (o := .cells #[.int .i64 0, .int .i64 0] 36 (0, 0)) (bk_ BK363.out) NB363_364.out (by simp)); have n1_ := Aside0.mk (hb); have n2_ := Aside0.mk (hi); clear BK363; clear HB; clear HI364; have BK363 := n0_; have HB := n1_; have HI364 := n2_; clear n0_ n1_ n2_; (try clear hb); (try clear hb2); (try clear hk); (try clear hi); have hnb12 := NB363_364.out; have hnc12 := NB364_363.out; have hcz13_0 : w11.cell? ⟨gb363, 0, none⟩ = some (.int .i64 0) := (blk_cell BK363.out 0).trans rfl; have hcz13_1 : w11.cell? ⟨gb363, 1, none⟩ = some (.int .i64 0) := (blk_cell BK363.out 1).trans rfl; have hfz13_0 := blk_frozen BK363.out 0; have hfz13_1 := blk_frozen BK363.out 1))
 refine bodyPost_ret (results_list (rs := [.tmp 2, .tmp 3, .cell 4 36]) rfl (by simp) (.tmp (.tmp (.cell gb363 36 #[.int .i64 (wrap64 (t369 - t372)), .int .i64 t375] (0, 0) _ rfl (by (with_reducible repeat (first | refine blk_drewN ?_ _ | refine blk_drew ?_ | refine blk_alloc ?_ _)); refine blk_put (cs := #[.int .i64 (wrap64 (t369 - t372)), .int .i64 0]) ?_ 1 _ rfl; (with_reducible repeat (first | refine blk_drewN ?_ _ | refine blk_drew ?_ | refine blk_alloc ?_ _)); refine blk_put (cs := #[.int .i64 0, .int .i64 0]) ?_ 0 _ rfl; (with_reducible repeat (first | refine blk_drewN ?_ _ | refine blk_drew ?_ | refine blk_alloc ?_ _)); exact BK363.out) Try.underlying36 rfl (by kernel_rfl) .nil)))) rfl ?_
 exact ⟨by first | rfl | (simp [errW_none, errW_some] <;> rfl) | (simp [*, errW_none, errW_some] <;> rfl), by repeat (first | (with_reducible first | exact HB.out | apply below_alloc | apply pw_below_drewN | apply below_drew1 | refine below_set ?_ (IsS46.ge HI364.out) | refine below_set ?_ GE363.out) | exact HB.out)⟩

/-! ### impl_steps: function 96 -/
def impl_steps.f (k : Nat) (a0_0 : Int) (a0_1 : Int) (a1_0 : Int) (a1_1 : Int) : Option (Int) := (impl_divisor.f k (wrap64 (a0_0 - a1_0)) (wrap64 (a0_1 - a1_1))).bind fun t380 => (some t380)
theorem impl_steps.mono : ∀ a0 a1 a2 a3 k, LeO (impl_steps.f k a0 a1 a2 a3) (impl_steps.f (k + 1) a0 a1 a2 a3) := by
 intro a0 a1 a2 a3 k
 unfold impl_steps.f
 repeat' first
   | (with_reducible exact impl_divisor.mono _ _ _)
   | (with_reducible exact LeO.refl _)
   | (with_reducible exact LeO.none _)
   | (with_reducible refine LeO.ite ?_ ?_)
   | (with_reducible refine LeO.bind ?_ (fun _ => ?_))
   | exact impl_divisor.mono _ _ _
   | exact LeO.none _
   | refine LeO.ite ?_ ?_
   | refine LeO.bind ?_ (fun _ => ?_)
set_option maxHeartbeats 8000000 in
set_option maxRecDepth 100000 in
theorem impl_steps.calls (k : Nat) (a0_0 : Int) (a0_1 : Int) (a1_0 : Int) (a1_1 : Int) (r : Int) (w : World) (h : impl_steps.f k a0_0 a0_1 a1_0 a1_1 = some r) :
  Calls Try.prog 96 #[.agg #[.int .i64 a0_0, .int .i64 a0_1], .agg #[.int .i64 a1_0, .int .i64 a1_1]] w fun e w' => e = .returned (.int .i64 r) ∧ Below w.heap.size w w' := by
 have hu36 := Try.underlying36
 have HB := Aside0.mk (Below.refl w.heap.size w)
 have H : ((impl_divisor.f k (wrap64 (a0_0 - a1_0)) (wrap64 (a0_1 - a1_1))).bind fun t380 => (some t380)) = some r := h
 clear h
 replace H := Option.bind_eq_some_iff.mp H
 obtain ⟨t380, A30, H⟩ := H
 replace H : (some t380) = some r := H
 have A3 := Aside0.mk A30
 clear A30
 obtain rfl := Option.some.inj H
 go_enter Try.func96, Try.ntmps96
 go_wp2_with (first | ((with_reducible refine gate_dst (N := 2) rfl ?_); refine box_event ?hg (N := 2) ?hd (cs := #[.int .i64 a0_0, .int .i64 a0_1]) (t := 36) ?hr ?_; (case hd => rfl); (case hg => rfl); (case hr => first | (go_simp; done) | (go_simp; rfl)); intro gb378 hg w4 hbox hb; have n0_ := Aside0.mk (below_step (hb_) hb); have n1_ := Aside0.mk (hbox); have n2_ := Aside0.mk ((by rw [hg]; exact (below_size (hb_)) : w.heap.size ≤ gb378)); have n3_ := Aside0.mk ((by rw [hg]; exact (below_size (hb_)) : w.heap.size ≤ gb378)); clear HB; have HB := n0_; have BK378 := n1_; have GW378 := n2_; have GE378 := n3_; clear n0_ n1_ n2_ n3_; clear hb hbox hg) | ((with_reducible refine gate_dst (N := 3) rfl ?_); refine box_event ?hg (N := 3) ?hd (cs := #[.int .i64 a1_0, .int .i64 a1_1]) (t := 36) ?hr ?_; (case hd => rfl); (case hg => rfl); (case hr => first | (go_simp; done) | (go_simp; rfl)); intro gb379 hg w5 hbox hb; have n0_ := bb_ BK378 hb; have n1_ := Aside0.mk (below_step (hbg_) hb); have n2_ := Aside0.mk (hbox); have n3_ := Aside0.mk ((by rw [hg]; exact (below_size (hbg_)) : w.heap.size ≤ gb379)); have n4_ := Aside0.mk ((by rw [hg]; exact (below_size (hbg_)) : w.heap.size ≤ gb379)); have n5_ := Aside0.mk ((by rw [hg]; exact Nat.ne_of_lt (blk_lt (bk_ BK378.out)) : gb378 ≠ gb379)); have n6_ := Aside0.mk ((by rw [hg]; exact Nat.ne_of_gt (blk_lt (bk_ BK378.out)) : gb379 ≠ gb378)); clear BK378; clear HB; have BK378 := n0_; have HB := n1_; have BK379 := n2_; have GW379 := n3_; have GE379 := n4_; have NB378_379 := n5_; have NB379_378 := n6_; clear n0_ n1_ n2_ n3_ n4_ n5_ n6_; clear hb hbox hg; have hnb6 := NB378_379.out; have hnc6 := NB379_378.out; have hcz7_0 : w5.cell? ⟨gb378, 0, none⟩ = some (.int .i64 a0_0) := (blk_cell BK378.out 0).trans rfl; have hcz7_1 : w5.cell? ⟨gb378, 1, none⟩ = some (.int .i64 a0_1) := (blk_cell BK378.out 1).trans rfl; have hfz7_0 := blk_frozen BK378.out 0; have hfz7_1 := blk_frozen BK378.out 1; have hcz8_0 : w5.cell? ⟨gb379, 0, none⟩ = some (.int .i64 a1_0) := (blk_cell BK379.out 0).trans rfl; have hcz8_1 : w5.cell? ⟨gb379, 1, none⟩ = some (.int .i64 a1_1) := (blk_cell BK379.out 1).trans rfl; have hfz8_0 := blk_frozen BK379.out 0; have hfz8_1 := blk_frozen BK379.out 1) | ((with_reducible refine gate_callee (f := 87) rfl ?_); refine goesL_ (some 15) rfl rfl Try.func87 (by kernel_rfl) rfl #[.int .i64 (wrap64 (a0_0 - a1_0)), .int .i64 (wrap64 (a0_1 - a1_1))] rfl ga_ ?_; (with_reducible refine (impl_divisor.calls k (wrap64 (a0_0 - a1_0)) (wrap64 (a0_1 - a1_1)) t380 _ A3.out).mono ?_); rintro e w9 ⟨rfl, hb⟩; refine ⟨_, rfl, ?_⟩; have n0_ := bb_ BK378 hb; have n1_ := bb_ BK379 hb; have n2_ := Aside0.mk (below_step (hbg_) hb); clear BK378; clear BK379; clear HB; have BK378 := n0_; have BK379 := n1_; have HB := n2_; clear n0_ n1_ n2_; (try clear hb); (try clear hb2); (try clear hk); (try clear hi)))
 go_ret
 exact ⟨by first | rfl | (simp [errW_none, errW_some] <;> rfl) | (simp [*, errW_none, errW_some] <;> rfl), hbg_⟩

end Go.Proofs.Ytmenfomcikfnmaa.MB
