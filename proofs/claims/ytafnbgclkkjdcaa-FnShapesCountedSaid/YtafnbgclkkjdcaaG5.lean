import Derived.Test.YtafnbgclkkjdcaaG4
namespace Go.Proofs.Ytafnbgclkkjdcaa.MA
open Go.RowKit Go.Proofs.YtafnbgclkkjdcaaW.PrintWords Go.Proofs.YtafnbgclkkjdcaaW.PrintLast Go.Proofs.YtafnbgclkkjdcaaW.PrintMore Go.Proofs.YtafnbgclkkjdcaaV
attribute [local go_sem] max2_int min2_int max_two min_two max_three min_three max_four min_four   -- for this text's walks alone
set_option linter.unusedVariables false
set_option linter.unusedSimpArgs false
def zj.l0 : Nat → List (S36) → Int → List Int → Int → Int → Option ((List (S36)))
 | 0, _, _, _, _, _ => none
 | k + 1, x4, x5, x448000, x448001, x448002 => if x5 > 0 then ((jm.f x448000 x448001 x448002 3).bind fun bt466 => (if x4.length < 8796093022208 then (zj.l0 k (x4 ++ [(⟨bt466.1, bt466.2.1⟩ : S36)]) (wrap64 (x5 - 1)) x448000 bt466.2.2.1 bt466.2.2.2) else (none))) else ((zH.f x448000 x448001 x448002 10).bind fun bt473 => (if bt473.1 = true then ((xh.f x448000 bt473.2.1 bt473.2.2).bind fun bt476 => (if x4.length < 8796093022208 then (some (x4 ++ [(⟨bt476.1, bt476.2.1⟩ : S36)])) else (none))) else (some x4)))
def zj.f (k : Nat) (l0 : List Int) : Option ((List (S36))) := (zH.f l0 0 0 3).bind fun bt448 => (if bt448.1 = true then ((zg.f l0 bt448.2.1 bt448.2.2 3).bind fun bt451 => ((zg.f l0 bt451.2.1 bt451.2.2 3).bind fun bt454 => ((qT.f k (wrap64 (1 + bt451.1)) (wrap64 (1 + bt454.1))).bind fun t457 => ((qM.f k t457 ([] : List (S36)) 0).bind fun t460 => (some t460))))) else ((zg.f l0 bt448.2.1 bt448.2.2 6).bind fun bt463 => (zj.l0 k ([] : List (S36)) bt463.1 l0 bt463.2.1 bt463.2.2)))
theorem zj.mono_l : ∀ k, (∀ y0 y1 y2 y3 y4, LeO (zj.l0 k y0 y1 y2 y3 y4) (zj.l0 (k + 1) y0 y1 y2 y3 y4))
 | 0 => fun _ _ _ _ _ r h => by simp [zj.l0] at h
 | k + 1 => by
  have ih0 := zj.mono_l k
  ·intro y0 y1 y2 y3 y4
   unfold zj.l0
   repeat' first
   | (with_reducible exact ih0 _ _ _ _ _)
   | (with_reducible exact qM.mono _ _ _ _)
   | (with_reducible exact qT.mono _ _ _)
   | (with_reducible exact LeO.refl _)
   | (with_reducible exact LeO.none _)
   | (with_reducible refine LeO.ite ?_ ?_)
   | (with_reducible refine LeO.bind ?_ (fun _ => ?_))
theorem zj.mono : ∀ a0 k, LeO (zj.f k a0) (zj.f (k + 1) a0) := by
 intro a0 k; have ih0 := zj.mono_l k; unfold zj.f
 repeat' first
   | (with_reducible exact ih0 _ _ _ _ _)
   | (with_reducible exact qM.mono _ _ _ _)
   | (with_reducible exact qT.mono _ _ _)
   | (with_reducible exact LeO.refl _)
   | (with_reducible exact LeO.none _)
   | (with_reducible refine LeO.ite ?_ ?_)
   | (with_reducible refine LeO.bind ?_ (fun _ => ?_))
set_option maxHeartbeats 8000000 in
set_option maxRecDepth 100000 in
theorem zj.calls (k : Nat) (A0 : Option Addr) (c0 : Nat) (l0 : List Int) (r : List (S36)) (w : World) (hr0 : Kd.C (Kd.int .u8) w A0 l0.length l0) (hc0 : l0.length ≤ c0) (h : zj.f k l0 = some r) :
  Calls Try.prog 21 #[.slice A0 l0.length c0] w fun e w' => ∃ v0_ : Value, e = .returned (v0_) ∧ Kd.R k36 36 w' w.heap.size (fun _ => True) v0_ r ∧ Below w.heap.size w w' := by
 have hu40 := Try.underlying40; have HR0 := qa.mk hr0; have HC0 := qa.mk hc0; clear hr0 hc0; have HB := qa.mk (Below.refl w.heap.size w); (have H : ((zH.f l0 0 0 3).bind fun bt448 => (if bt448.1 = true then ((zg.f l0 bt448.2.1 bt448.2.2 3).bind fun bt451 => ((zg.f l0 bt451.2.1 bt451.2.2 3).bind fun bt454 => ((qT.f k (wrap64 (1 + bt451.1)) (wrap64 (1 + bt454.1))).bind fun t457 => ((qM.f k t457 ([] : List (S36)) 0).bind fun t460 => (some t460))))) else ((zg.f l0 bt448.2.1 bt448.2.2 6).bind fun bt463 => (zj.l0 k ([] : List (S36)) bt463.1 l0 bt463.2.1 bt463.2.2)))) = some r := h); clear h; replace H := Option.bind_eq_some_iff.mp H; obtain ⟨⟨t448, t449, t450⟩, A20, H⟩ := H; (try dsimp -simprocs only at H); have A2 := qa.mk A20; clear A20; by_cases c3 : t448 = true
 ·subst c3
  rw [if_pos rfl] at H; replace H := Option.bind_eq_some_iff.mp H; obtain ⟨⟨t451, t452, t453⟩, A40, H⟩ := H; (try dsimp -simprocs only at H); have A4 := qa.mk A40; clear A40; replace H := Option.bind_eq_some_iff.mp H; obtain ⟨⟨t454, t455, t456⟩, A50, H⟩ := H; (try dsimp -simprocs only at H); have A5 := qa.mk A50; clear A50; replace H := Option.bind_eq_some_iff.mp H; obtain ⟨t457, A60, H⟩ := H; (try dsimp -simprocs only at H); have A6 := qa.mk A60; clear A60; replace H := Option.bind_eq_some_iff.mp H; obtain ⟨t460, A70, H⟩ := H; replace H : (some t460) = some r := H; have A7 := qa.mk A70; clear A70; obtain rfl := Option.some.inj H; go_enter Try.func21, Try.ntmps21
  go_wp2_with (first | ((with_reducible refine qN (N := 8) rfl ?_); refine qO ?hg (N := 8) ?hd (cs := #[.slice A0 l0.length c0, .int .i64 0, .int .u64 0]) (t := 40) ?hr ?_; (case hd => rfl); (case hg => rfl); (case hr => first | (go_simp; done) | (go_simp; rfl)); intro gb447 hg w8 hbox hb; have HI447 := qa.mk ((show qi w w8 gb447 l0 0 0 from ⟨_, _, hbox, (by rw [hg]; exact (qn (hb_)) : w.heap.size ≤ gb447), HR0.out⟩)); replace HB := qa.mk (qh (hb_) hb); clear hb hbox hg) | ((with_reducible refine qo (f := 27) rfl ?_); refine qP (some 10) rfl rfl Try.func27 (by kernel_rfl) rfl #[.pointer (some ⟨gb447, 0, none⟩), .int .i64 3] rfl ga_ ?_; (with_reducible refine (zH.calls gb447 l0 0 0 3 true t449 t450 w _ ?side1 ?side2 A2.out).mono ?_); (case side1 => repeat (first | (with_reducible first | exact HI447.out | apply qi.alloc | apply qi.drewN | apply qi.drew | apply qi.zS | apply qi.zR) | exact HI447.out)); (case side2 => repeat (first | (with_reducible first | exact HB.out | apply qk | apply qf | apply qj | refine qd ?_ (qi.ge HI447.out)) | exact HB.out)); rintro e w9 ⟨rfl, hi, hb, hk⟩; refine ⟨_, rfl, ?_⟩; replace HB := qa.mk (hb); replace HI447 := qa.mk (hi); (try clear hb); (try clear hk); (try clear hi)) | ((with_reducible refine qo (f := 28) rfl ?_); refine qP (some 12) rfl rfl Try.func28 (by kernel_rfl) rfl #[.pointer (some ⟨gb447, 0, none⟩), .int .i64 3] rfl ga_ ?_; (with_reducible refine (zg.calls gb447 l0 t449 t450 3 t451 t452 t453 w _ ?side1 ?side2 A4.out).mono ?_); (case side1 => repeat (first | (with_reducible first | exact HI447.out | apply qi.alloc | apply qi.drewN | apply qi.drew | apply qi.zS | apply qi.zR) | exact HI447.out)); (case side2 => repeat (first | (with_reducible first | exact HB.out | apply qk | apply qf | apply qj | refine qd ?_ (qi.ge HI447.out)) | exact HB.out)); rintro e w10 ⟨rfl, hi, hb, hk⟩; refine ⟨_, rfl, ?_⟩; replace HB := qa.mk (hb); replace HI447 := qa.mk (hi); (try clear hb); (try clear hk); (try clear hi)) | ((with_reducible refine qo (f := 28) rfl ?_); refine qP (some 15) rfl rfl Try.func28 (by kernel_rfl) rfl #[.pointer (some ⟨gb447, 0, none⟩), .int .i64 3] rfl ga_ ?_; (with_reducible refine (zg.calls gb447 l0 t452 t453 3 t454 t455 t456 w _ ?side1 ?side2 A5.out).mono ?_); (case side1 => repeat (first | (with_reducible first | exact HI447.out | apply qi.alloc | apply qi.drewN | apply qi.drew | apply qi.zS | apply qi.zR) | exact HI447.out)); (case side2 => repeat (first | (with_reducible first | exact HB.out | apply qk | apply qf | apply qj | refine qd ?_ (qi.ge HI447.out)) | exact HB.out)); rintro e w11 ⟨rfl, hi, hb, hk⟩; refine ⟨_, rfl, ?_⟩; replace HB := qa.mk (hb); replace HI447 := qa.mk (hi); (try clear hb); (try clear hk); (try clear hi)) | ((with_reducible refine qo (f := 36) rfl ?_); refine qP (some 17) rfl rfl Try.func36 (by kernel_rfl) rfl #[.int .i64 (wrap64 (1 + t451)), .int .i64 (wrap64 (1 + t454))] rfl ga_ ?_; (with_reducible refine (qT.calls k (wrap64 (1 + t451)) (wrap64 (1 + t454)) t457 _ A6.out).mono ?_); rintro e w12 ⟨v458, rfl, ho0, hb⟩; refine ⟨_, rfl, ?_⟩; have HO459 := qa.mk (Kd.zK ho0 (qn (by repeat (first | (with_reducible first | exact HB.out | apply qk | apply qf | apply qj | refine qd ?_ (qi.ge HI447.out)) | exact HB.out)))); replace HB := qa.mk (qh (by repeat (first | (with_reducible first | exact HB.out | apply qk | apply qf | apply qj | refine qd ?_ (qi.ge HI447.out)) | exact HB.out)) hb); replace HI447 := qa.mk (qi.below (by repeat (first | (with_reducible first | exact HI447.out | apply qi.alloc | apply qi.drewN | apply qi.drew | apply qi.zS | apply qi.zR) | exact HI447.out)) hb); (try clear hb); (try clear ho0); obtain ⟨Ao13, co13, eo13⟩ := Kd.zO HO459.out; subst eo13) | ((with_reducible refine qo (f := 47) rfl ?_); refine qP (some 18) rfl rfl Try.func47 (by kernel_rfl) rfl #[.slice Ao13 t457.length co13, .slice none 0 0, .int .i64 0] rfl ga_ ?_; (refine (qM.calls k _ _ t457 _ _ ([] : List (S36)) 0 t460 _ ?side1 ?side2 ?side3 ?side4 A7.out).mono ?_); (case side1 => repeat (first | exact (Kd.qV HO459.out).2.2 | (with_reducible refine Kd.qZ ?_ _) | (with_reducible refine Kd.qY ?_ _) | (with_reducible refine Kd.zi ?_))); (case side2 => exact (Kd.qV HO459.out).2.1); (case side3 => exact Kd.C_nil _ _); (case side4 => exact Nat.le_refl _); rintro e w14 ⟨v461, rfl, ho0, hb⟩; refine ⟨_, rfl, ?_⟩; have HO462 := qa.mk (Kd.zK (Kd.jv ho0 (Kd.R_lt (rk_ HO459.out))) (qn (by repeat (first | (with_reducible first | exact HB.out | apply qk | apply qf | apply qj | refine qd ?_ (qi.ge HI447.out)) | exact HB.out)))); replace HO459 := qa.mk (Kd.zX (rk_ HO459.out) (Kd.jj ho0) hb); replace HB := qa.mk (qh (by repeat (first | (with_reducible first | exact HB.out | apply qk | apply qf | apply qj | refine qd ?_ (qi.ge HI447.out)) | exact HB.out)) hb); replace HI447 := qa.mk (qi.below (by repeat (first | (with_reducible first | exact HI447.out | apply qi.alloc | apply qi.drewN | apply qi.drew | apply qi.zS | apply qi.zR) | exact HI447.out)) hb); (try clear hb); (try clear ho0)))
  go_ret; exact ⟨_, by first | rfl | (simp [qw, qv] <;> rfl) | (simp [*, qw, qv] <;> rfl), by (with_reducible repeat (first | apply Kd.qF | apply Kd.qE | apply Kd.qJ)); exact Kd.qz HO462.out (fun _ hk => trivial), by repeat (first | (with_reducible first | exact HB.out | apply qk | apply qf | apply qj | refine qd ?_ (qi.ge HI447.out)) | exact HB.out)⟩
 ·replace c3 := Bool.eq_false_iff.mpr c3
  subst c3; rw [if_neg Bool.false_ne_true] at H; replace H := Option.bind_eq_some_iff.mp H; obtain ⟨⟨t463, t464, t465⟩, A150, H⟩ := H; (try dsimp -simprocs only at H); have A15 := qa.mk A150; clear A150; have H' := qa.mk H; clear H; go_enter Try.func21, Try.ntmps21
  go_wp2_with (first | ((with_reducible refine qN (N := 8) rfl ?_); refine qO ?hg (N := 8) ?hd (cs := #[.slice A0 l0.length c0, .int .i64 0, .int .u64 0]) (t := 40) ?hr ?_; (case hd => rfl); (case hg => rfl); (case hr => first | (go_simp; done) | (go_simp; rfl)); intro gb447 hg w16 hbox hb; have HI447 := qa.mk ((show qi w w16 gb447 l0 0 0 from ⟨_, _, hbox, (by rw [hg]; exact (qn (hb_)) : w.heap.size ≤ gb447), HR0.out⟩)); replace HB := qa.mk (qh (hb_) hb); clear hb hbox hg) | ((with_reducible refine qo (f := 27) rfl ?_); refine qP (some 10) rfl rfl Try.func27 (by kernel_rfl) rfl #[.pointer (some ⟨gb447, 0, none⟩), .int .i64 3] rfl ga_ ?_; (with_reducible refine (zH.calls gb447 l0 0 0 3 false t449 t450 w _ ?side1 ?side2 A2.out).mono ?_); (case side1 => repeat (first | (with_reducible first | exact HI447.out | apply qi.alloc | apply qi.drewN | apply qi.drew | apply qi.zS | apply qi.zR) | exact HI447.out)); (case side2 => repeat (first | (with_reducible first | exact HB.out | apply qk | apply qf | apply qj | refine qd ?_ (qi.ge HI447.out)) | exact HB.out)); rintro e w17 ⟨rfl, hi, hb, hk⟩; refine ⟨_, rfl, ?_⟩; replace HB := qa.mk (hb); replace HI447 := qa.mk (hi); (try clear hb); (try clear hk); (try clear hi)) | ((with_reducible refine qo (f := 28) rfl ?_); refine qP (some 20) rfl rfl Try.func28 (by kernel_rfl) rfl #[.pointer (some ⟨gb447, 0, none⟩), .int .i64 6] rfl ga_ ?_; (with_reducible refine (zg.calls gb447 l0 t449 t450 6 t463 t464 t465 w _ ?side1 ?side2 A15.out).mono ?_); (case side1 => repeat (first | (with_reducible first | exact HI447.out | apply qi.alloc | apply qi.drewN | apply qi.drew | apply qi.zS | apply qi.zR) | exact HI447.out)); (case side2 => repeat (first | (with_reducible first | exact HB.out | apply qk | apply qf | apply qj | refine qd ?_ (qi.ge HI447.out)) | exact HB.out)); rintro e w18 ⟨rfl, hi, hb, hk⟩; refine ⟨_, rfl, ?_⟩; replace HB := qa.mk (hb); replace HI447 := qa.mk (hi); (try clear hb); (try clear hk); (try clear hi)))
  go_loopg [4, 5] k (fun kq v4 v5 w' => ∃ (x4_1 : List (S36)) (x5_1 : Int) (x448001_1 : Int) (x448002_1 : Int), v5 = .int .i64 x5_1 ∧ qa (zj.l0 kq x4_1 x5_1 l0 x448001_1 x448002_1 = some r) ∧ qa (kq ≤ k) ∧ qa (Kd.R k36 36 w' w.heap.size (fun _ => True) v4 x4_1) ∧ qa (qi w w' gb447 l0 x448001_1 x448002_1) ∧ qa (Below w.heap.size w w'))
  case atStart => exact ⟨(([] : List (S36))), (t463), (t464), (t465), (by first | rfl | (simp; done) | (simp [*]; done)), H', ⟨Nat.le_refl _⟩, ⟨Kd.R_nil _ _ _ _ _⟩, ⟨by repeat (first | (with_reducible first | exact HI447.out | apply qi.alloc | apply qi.drewN | apply qi.drew | apply qi.zS | apply qi.zR) | exact HI447.out)⟩, ⟨by repeat (first | (with_reducible first | exact HB.out | apply qk | apply qf | apply qj | refine qd ?_ (qi.ge HI447.out)) | exact HB.out)⟩⟩
  case round =>
   clear H'; (try clear c2; try clear p2; try clear c3; try clear c4; try clear p6); obtain ⟨x4_1, x5_1, x448001_1, x448002_1, rfl, HA, HK1, HO_4, HI447, HB⟩ := hrel
   cases gk with
   | zero => exact absurd HA.out (by simp [zj.l0])
   | succ k1 =>
    have H := HA.out; clear HA; simp only [zj.l0] at H; by_cases c19 : x5_1 > 0
    ·rw [if_pos c19] at H
     have c19b0 : decide (0 < x5_1) = true := decide_eq_true c19; clear c19; replace H := Option.bind_eq_some_iff.mp H; obtain ⟨⟨t466, t467, t468, t469⟩, A200, H⟩ := H; (try dsimp -simprocs only at H); have A20 := qa.mk A200; clear A200; by_cases c21 : x4_1.length < 8796093022208
     ·rw [if_pos c21] at H
      have LMc21 := qa.mk c21; clear c21; obtain ⟨y470, hy470⟩ : ∃ y_ : List (S36), y_ = (x4_1 ++ [(⟨t466, t467⟩ : S36)]) := ⟨_, rfl⟩; (replace H : (zj.l0 k1 y470 (wrap64 (x5_1 - 1)) l0 t468 t469) = some r := by first | (rw [hy470]; with_reducible exact H) | (have H2_ := (Option.bind_some _ _).symm.trans H; rw [hy470]; with_reducible exact H2_) | (have H2_ := (Option.bind_some _ _).symm.trans H; with_reducible exact H2_) | with_reducible exact H | (rw [hy470]; exact H) | exact H); have Ny470 := qa.mk hy470; clear hy470; have H' := qa.mk H; clear H
      go_wp2_with (first | ((with_reducible refine qo (f := 48) rfl ?_); refine qP (some 27) rfl rfl Try.func48 (by kernel_rfl) rfl #[.pointer (some ⟨gb447, 0, none⟩), .int .i64 3] rfl ga_ ?_; (with_reducible refine (jm.calls gb447 l0 x448001_1 x448002_1 3 t466 t467 t468 t469 w _ ?side1 ?side2 A20.out).mono ?_); (case side1 => repeat (first | (with_reducible first | exact HI447.out | apply qi.alloc | apply qi.drewN | apply qi.drew | apply qi.zS | apply qi.zR) | exact HI447.out)); (case side2 => repeat (first | (with_reducible first | exact HB.out | apply qk | apply qf | apply qj | refine qd ?_ (qi.ge HI447.out)) | exact HB.out)); rintro e w22 ⟨rfl, hi, hb, hk⟩; refine ⟨_, rfl, ?_⟩; replace HO_4 := qa.mk (Kd.qz (Kd.xC (qi.apart (show qi w _ gb447 l0 x448001_1 x448002_1 from by repeat (first | (with_reducible first | exact HI447.out | apply qi.alloc | apply qi.drewN | apply qi.drew | apply qi.zS | apply qi.zR) | exact HI447.out)) (rk_ HO_4.out) (by decide)) hk (fun _ h => h.2)) (fun _ h => h.1)); replace HB := qa.mk (hb); replace HI447 := qa.mk (hi); (try clear hb); (try clear hk); (try clear hi)) | ((with_reducible refine jP (b := .append) (xs := #[.tmp 25, .tmp 28]) rfl ?_); at_builtin; refine Kd.R_append k36 (w0 := w) w.heap.size rfl (.tmp 25) (.tmp 28) 28 36 (.agg #[(.int .i64 0), (.int .i64 0)]) 16 rfl Try.underlying28 js rfl (by decide) (by omega) u4 x4_1 (⟨t466, t467⟩ : S36) [.int .i64 t466, .int .i64 t467] (fun _ => True) (fun _ => False) rfl rfl ?aP (fun _ hk => hk.elim) ?aF ?aO ?aB ?aS ?aL ?_; (case aP => exact jz _ _ _ (⟨t466, t467⟩ : S36)); (case aB => exact (by repeat (first | (with_reducible first | exact HB.out | apply qk | apply qf | apply qj | refine qd ?_ (qi.ge HI447.out)) | exact HB.out))); (case aF => exact (fun _ _ => trivial)); (case aO => exact (rk_ HO_4.out)); (case aS => exact (qn (by repeat (first | (with_reducible first | exact HB.out | apply qk | apply qf | apply qj | refine qd ?_ (qi.ge HI447.out)) | exact HB.out)))); (case aL => have := LMc21.out; omega); intro v471 w23 ho hb hg hat; rw [← Ny470.out] at ho; replace HI447 := qa.mk (qi.grown (by repeat (first | (with_reducible first | exact HI447.out | apply qi.alloc | apply qi.drewN | apply qi.drew | apply qi.zS | apply qi.zR) | exact HI447.out)) hg (qi.own_ne HI447.out HO_4.out (by decide))); replace HB := qa.mk (hb); have HO472 := qa.mk (ho); clear HO_4; clear ho hb hg hat))
      go_roundg k1
      case measure => have := HK1.out; omega
      case rel => exact ⟨(y470), (wrap64 (x5_1 - 1)), (t468), (t469), (by first | rfl | (simp; done) | (simp [*]; done)), H', ⟨by have := HK1.out; omega⟩, ⟨rk_ HO472.out⟩, ⟨by repeat (first | (with_reducible first | exact HI447.out | apply qi.alloc | apply qi.drewN | apply qi.drew | apply qi.zS | apply qi.zR) | exact HI447.out)⟩, ⟨by repeat (first | (with_reducible first | exact HB.out | apply qk | apply qf | apply qj | refine qd ?_ (qi.ge HI447.out)) | exact HB.out)⟩⟩
     ·rw [if_neg c21] at H
      exact absurd H (by simp)
    ·rw [if_neg c19] at H
     have c19b0 : decide (0 < x5_1) = false := decide_eq_false c19; clear c19; replace H := Option.bind_eq_some_iff.mp H; obtain ⟨⟨t473, t474, t475⟩, A240, H⟩ := H; (try dsimp -simprocs only at H); have A24 := qa.mk A240; clear A240; by_cases c25 : t473 = true
     ·subst c25
      rw [if_pos rfl] at H; replace H := Option.bind_eq_some_iff.mp H; obtain ⟨⟨t476, t477, t478, t479⟩, A260, H⟩ := H; (try dsimp -simprocs only at H); have A26 := qa.mk A260; clear A260; by_cases c27 : x4_1.length < 8796093022208
      ·rw [if_pos c27] at H
       have LMc27 := qa.mk c27; clear c27; obtain ⟨y480, hy480⟩ : ∃ y_ : List (S36), y_ = (x4_1 ++ [(⟨t476, t477⟩ : S36)]) := ⟨_, rfl⟩; (replace H : (some y480) = some r := by first | (rw [hy480]; with_reducible exact H) | (have H2_ := (Option.bind_some _ _).symm.trans H; rw [hy480]; with_reducible exact H2_) | (have H2_ := (Option.bind_some _ _).symm.trans H; with_reducible exact H2_) | with_reducible exact H | (rw [hy480]; exact H) | exact H); have Ny480 := qa.mk hy480; clear hy480; obtain rfl := Option.some.inj H
       go_wp2_with (first | ((with_reducible refine qo (f := 27) rfl ?_); refine qP (some 31) rfl rfl Try.func27 (by kernel_rfl) rfl #[.pointer (some ⟨gb447, 0, none⟩), .int .i64 10] rfl ga_ ?_; (with_reducible refine (zH.calls gb447 l0 x448001_1 x448002_1 10 true t474 t475 w _ ?side1 ?side2 A24.out).mono ?_); (case side1 => repeat (first | (with_reducible first | exact HI447.out | apply qi.alloc | apply qi.drewN | apply qi.drew | apply qi.zS | apply qi.zR) | exact HI447.out)); (case side2 => repeat (first | (with_reducible first | exact HB.out | apply qk | apply qf | apply qj | refine qd ?_ (qi.ge HI447.out)) | exact HB.out)); rintro e w28 ⟨rfl, hi, hb, hk⟩; refine ⟨_, rfl, ?_⟩; replace HO_4 := qa.mk (Kd.qz (Kd.xC (qi.apart (show qi w _ gb447 l0 x448001_1 x448002_1 from by repeat (first | (with_reducible first | exact HI447.out | apply qi.alloc | apply qi.drewN | apply qi.drew | apply qi.zS | apply qi.zR) | exact HI447.out)) (rk_ HO_4.out) (by decide)) hk (fun _ h => h.2)) (fun _ h => h.1)); replace HB := qa.mk (hb); replace HI447 := qa.mk (hi); (try clear hb); (try clear hk); (try clear hi)) | ((with_reducible refine qo (f := 49) rfl ?_); refine qP (some 34) rfl rfl Try.func49 (by kernel_rfl) rfl #[.pointer (some ⟨gb447, 0, none⟩)] rfl ga_ ?_; (with_reducible refine (xh.calls gb447 l0 t474 t475 t476 t477 t478 t479 w _ ?side1 ?side2 A26.out).mono ?_); (case side1 => repeat (first | (with_reducible first | exact HI447.out | apply qi.alloc | apply qi.drewN | apply qi.drew | apply qi.zS | apply qi.zR) | exact HI447.out)); (case side2 => repeat (first | (with_reducible first | exact HB.out | apply qk | apply qf | apply qj | refine qd ?_ (qi.ge HI447.out)) | exact HB.out)); rintro e w29 ⟨rfl, hi, hb, hk⟩; refine ⟨_, rfl, ?_⟩; replace HO_4 := qa.mk (Kd.qz (Kd.xC (qi.apart (show qi w _ gb447 l0 t474 t475 from by repeat (first | (with_reducible first | exact HI447.out | apply qi.alloc | apply qi.drewN | apply qi.drew | apply qi.zS | apply qi.zR) | exact HI447.out)) (rk_ HO_4.out) (by decide)) hk (fun _ h => h.2)) (fun _ h => h.1)); replace HB := qa.mk (hb); replace HI447 := qa.mk (hi); (try clear hb); (try clear hk); (try clear hi)) | ((with_reducible refine jP (b := .append) (xs := #[.tmp 32, .tmp 35]) rfl ?_); at_builtin; refine Kd.R_append k36 (w0 := w) w.heap.size rfl (.tmp 32) (.tmp 35) 28 36 (.agg #[(.int .i64 0), (.int .i64 0)]) 16 rfl Try.underlying28 js rfl (by decide) (by omega) u4 x4_1 (⟨t476, t477⟩ : S36) [.int .i64 t476, .int .i64 t477] (fun _ => True) (fun _ => False) rfl rfl ?aP (fun _ hk => hk.elim) ?aF ?aO ?aB ?aS ?aL ?_; (case aP => exact jz _ _ _ (⟨t476, t477⟩ : S36)); (case aB => exact (by repeat (first | (with_reducible first | exact HB.out | apply qk | apply qf | apply qj | refine qd ?_ (qi.ge HI447.out)) | exact HB.out))); (case aF => exact (fun _ _ => trivial)); (case aO => exact (rk_ HO_4.out)); (case aS => exact (qn (by repeat (first | (with_reducible first | exact HB.out | apply qk | apply qf | apply qj | refine qd ?_ (qi.ge HI447.out)) | exact HB.out)))); (case aL => have := LMc27.out; omega); intro v481 w30 ho hb hg hat; rw [← Ny480.out] at ho; replace HI447 := qa.mk (qi.grown (by repeat (first | (with_reducible first | exact HI447.out | apply qi.alloc | apply qi.drewN | apply qi.drew | apply qi.zS | apply qi.zR) | exact HI447.out)) hg (qi.own_ne HI447.out HO_4.out (by decide))); replace HB := qa.mk (hb); have HO482 := qa.mk (ho); clear HO_4; clear ho hb hg hat))
       go_ret; exact ⟨_, by first | rfl | (simp [qw, qv] <;> rfl) | (simp [*, qw, qv] <;> rfl), by (with_reducible repeat (first | apply Kd.qF | apply Kd.qE | apply Kd.qJ)); exact HO482.out, by repeat (first | (with_reducible first | exact HB.out | apply qk | apply qf | apply qj | refine qd ?_ (qi.ge HI447.out)) | exact HB.out)⟩
      ·rw [if_neg c27] at H
       exact absurd H (by simp)
     ·replace c25 := Bool.eq_false_iff.mpr c25
      subst c25; rw [if_neg Bool.false_ne_true] at H; obtain rfl := Option.some.inj H
      go_wp2_with (first | ((with_reducible refine qo (f := 27) rfl ?_); refine qP (some 31) rfl rfl Try.func27 (by kernel_rfl) rfl #[.pointer (some ⟨gb447, 0, none⟩), .int .i64 10] rfl ga_ ?_; (with_reducible refine (zH.calls gb447 l0 x448001_1 x448002_1 10 false t474 t475 w _ ?side1 ?side2 A24.out).mono ?_); (case side1 => repeat (first | (with_reducible first | exact HI447.out | apply qi.alloc | apply qi.drewN | apply qi.drew | apply qi.zS | apply qi.zR) | exact HI447.out)); (case side2 => repeat (first | (with_reducible first | exact HB.out | apply qk | apply qf | apply qj | refine qd ?_ (qi.ge HI447.out)) | exact HB.out)); rintro e w31 ⟨rfl, hi, hb, hk⟩; refine ⟨_, rfl, ?_⟩; replace HO_4 := qa.mk (Kd.qz (Kd.xC (qi.apart (show qi w _ gb447 l0 x448001_1 x448002_1 from by repeat (first | (with_reducible first | exact HI447.out | apply qi.alloc | apply qi.drewN | apply qi.drew | apply qi.zS | apply qi.zR) | exact HI447.out)) (rk_ HO_4.out) (by decide)) hk (fun _ h => h.2)) (fun _ h => h.1)); replace HB := qa.mk (hb); replace HI447 := qa.mk (hi); (try clear hb); (try clear hk); (try clear hi)))
      go_ret; exact ⟨_, by first | rfl | (simp [qw, qv] <;> rfl) | (simp [*, qw, qv] <;> rfl), by (with_reducible repeat (first | apply Kd.qF | apply Kd.qE | apply Kd.qJ)); exact HO_4.out, by repeat (first | (with_reducible first | exact HB.out | apply qk | apply qf | apply qj | refine qd ?_ (qi.ge HI447.out)) | exact HB.out)⟩
def xz.f (a0_0 : Int) (a0_1 : Int) : Option (Bool) := (zT.f a0_0 (-40) 40).bind fun t484 => (if t484 = true then ((zT.f a0_1 (-40) 40).bind fun t485 => (some t485)) else (some false))
set_option maxHeartbeats 8000000 in
set_option maxRecDepth 100000 in
theorem xz.calls (a0_0 : Int) (a0_1 : Int) (r : Bool) (w : World) (h : xz.f a0_0 a0_1 = some r) :
  Calls Try.prog 65 #[.agg #[.int .i64 a0_0, .int .i64 a0_1]] w fun e w' => e = .returned (.bool r) ∧ Below w.heap.size w w' := by
 have hu36 := Try.underlying36; have HB := qa.mk (Below.refl w.heap.size w); (have H : ((zT.f a0_0 (-40) 40).bind fun t484 => (if t484 = true then ((zT.f a0_1 (-40) 40).bind fun t485 => (some t485)) else (some false))) = some r := h); clear h; replace H := Option.bind_eq_some_iff.mp H; obtain ⟨t484, A20, H⟩ := H; (try dsimp -simprocs only at H); have A2 := qa.mk A20; clear A20; by_cases c3 : t484 = true
 ·subst c3
  rw [if_pos rfl] at H; replace H := Option.bind_eq_some_iff.mp H; obtain ⟨t485, A40, H⟩ := H; replace H : (some t485) = some r := H; have A4 := qa.mk A40; clear A40; obtain rfl := Option.some.inj H; go_enter Try.func65, Try.ntmps65
  go_wp2_with (first | ((with_reducible refine qN (N := 1) rfl ?_); refine qO ?hg (N := 1) ?hd (cs := #[.int .i64 a0_0, .int .i64 a0_1]) (t := 36) ?hr ?_; (case hd => rfl); (case hg => rfl); (case hr => first | (go_simp; done) | (go_simp; rfl)); intro gb483 hg w5 hbox hb; have BK483 := qa.mk (hbox); have GW483 := qa.mk ((by rw [hg]; exact (qn (hb_)) : w.heap.size ≤ gb483)); have GE483 := qa.mk ((by rw [hg]; exact (qn (hb_)) : w.heap.size ≤ gb483)); replace HB := qa.mk (qh (hb_) hb); clear hb hbox hg; have hcz6_0 : w5.cell? ⟨gb483, 0, none⟩ = some (.int .i64 a0_0) := (qc BK483.out 0).trans rfl; have hcz6_1 : w5.cell? ⟨gb483, 1, none⟩ = some (.int .i64 a0_1) := (qc BK483.out 1).trans rfl; have hfz6_0 := qg BK483.out 0; have hfz6_1 := qg BK483.out 1) | ((with_reducible refine qo (f := 58) rfl ?_); refine qP (some 5) rfl rfl Try.func58 (by kernel_rfl) rfl #[.int .i64 a0_0, .int .i64 (-40), .int .i64 40] rfl ga_ ?_; (with_reducible refine (zT.calls a0_0 (-40) 40 true _ A2.out).mono ?_); rintro e w' ⟨rfl, ⟨nd, rfl⟩⟩; refine ⟨_, rfl, ?_⟩) | (go_at_call 58; (with_reducible refine (zT.calls a0_1 (-40) 40 t485 _ A4.out).mono ?_); rintro e w' ⟨rfl, ⟨nd, rfl⟩⟩))
  go_ret; exact ⟨by first | rfl | (simp [qw, qv] <;> rfl) | (simp [*, qw, qv] <;> rfl), hbg_⟩
 ·replace c3 := Bool.eq_false_iff.mpr c3
  subst c3; rw [if_neg Bool.false_ne_true] at H; obtain rfl := Option.some.inj H; go_enter Try.func65, Try.ntmps65
  go_wp2_with (first | ((with_reducible refine qN (N := 1) rfl ?_); refine qO ?hg (N := 1) ?hd (cs := #[.int .i64 a0_0, .int .i64 a0_1]) (t := 36) ?hr ?_; (case hd => rfl); (case hg => rfl); (case hr => first | (go_simp; done) | (go_simp; rfl)); intro gb483 hg w7 hbox hb; have BK483 := qa.mk (hbox); have GW483 := qa.mk ((by rw [hg]; exact (qn (hb_)) : w.heap.size ≤ gb483)); have GE483 := qa.mk ((by rw [hg]; exact (qn (hb_)) : w.heap.size ≤ gb483)); replace HB := qa.mk (qh (hb_) hb); clear hb hbox hg; have hcz8_0 : w7.cell? ⟨gb483, 0, none⟩ = some (.int .i64 a0_0) := (qc BK483.out 0).trans rfl; have hcz8_1 : w7.cell? ⟨gb483, 1, none⟩ = some (.int .i64 a0_1) := (qc BK483.out 1).trans rfl; have hfz8_0 := qg BK483.out 0; have hfz8_1 := qg BK483.out 1) | ((with_reducible refine qo (f := 58) rfl ?_); refine qP (some 5) rfl rfl Try.func58 (by kernel_rfl) rfl #[.int .i64 a0_0, .int .i64 (-40), .int .i64 40] rfl ga_ ?_; (with_reducible refine (zT.calls a0_0 (-40) 40 false _ A2.out).mono ?_); rintro e w' ⟨rfl, ⟨nd, rfl⟩⟩; refine ⟨_, rfl, ?_⟩))
  go_ret; exact ⟨by first | rfl | (simp [qw, qv] <;> rfl) | (simp [*, qw, qv] <;> rfl), hbg_⟩
def xi.f (a0_0 : Int) (a0_1 : Int) : Option (Bool) := (xz.f a0_0 a0_1).bind fun t487 => (some (!t487))
set_option maxHeartbeats 8000000 in
set_option maxRecDepth 100000 in
theorem xi.calls (a0_0 : Int) (a0_1 : Int) (r : Bool) (w : World) (h : xi.f a0_0 a0_1 = some r) :
  Calls Try.prog 64 #[.agg #[.int .i64 a0_0, .int .i64 a0_1]] w fun e w' => e = .returned (.bool r) ∧ Below w.heap.size w w' := by
 have hu36 := Try.underlying36; have HB := qa.mk (Below.refl w.heap.size w); (have H : ((xz.f a0_0 a0_1).bind fun t487 => (some (!t487))) = some r := h); clear h; replace H := Option.bind_eq_some_iff.mp H; obtain ⟨t487, A20, H⟩ := H; replace H : (some (!t487)) = some r := H; have A2 := qa.mk A20; clear A20; obtain rfl := Option.some.inj H; go_enter Try.func64, Try.ntmps64
 go_wp2_with (first | ((with_reducible refine qN (N := 1) rfl ?_); refine qO ?hg (N := 1) ?hd (cs := #[.int .i64 a0_0, .int .i64 a0_1]) (t := 36) ?hr ?_; (case hd => rfl); (case hg => rfl); (case hr => first | (go_simp; done) | (go_simp; rfl)); intro gb486 hg w3 hbox hb; have BK486 := qa.mk (hbox); have GW486 := qa.mk ((by rw [hg]; exact (qn (hb_)) : w.heap.size ≤ gb486)); have GE486 := qa.mk ((by rw [hg]; exact (qn (hb_)) : w.heap.size ≤ gb486)); replace HB := qa.mk (qh (hb_) hb); clear hb hbox hg; have hcz4_0 : w3.cell? ⟨gb486, 0, none⟩ = some (.int .i64 a0_0) := (qc BK486.out 0).trans rfl; have hcz4_1 : w3.cell? ⟨gb486, 1, none⟩ = some (.int .i64 a0_1) := (qc BK486.out 1).trans rfl; have hfz4_0 := qg BK486.out 0; have hfz4_1 := qg BK486.out 1) | ((with_reducible refine qo (f := 65) rfl ?_); refine qP (some 4) rfl rfl Try.func65 (by kernel_rfl) rfl #[.agg #[.int .i64 a0_0, .int .i64 a0_1]] rfl ga_ ?_; (with_reducible refine (xz.calls a0_0 a0_1 t487 _ A2.out).mono ?_); rintro e w5 ⟨rfl, hb⟩; refine ⟨_, rfl, ?_⟩; replace BK486 := bb_ BK486 hb; replace HB := qa.mk (qh (hbg_) hb); (try clear hb)))
 go_ret; exact ⟨by first | rfl | (simp [qw, qv] <;> rfl) | (simp [*, qw, qv] <;> rfl), hbg_⟩
def qC.l0 : Nat → List (S36) → Int → Int → Option (Int)
 | 0, _, _, _ => none
 | k + 1, x0, x7, x8 => if x8 < x7 then (if 0 ≤ x8 then (if x8 < (x0.length : Int) then ((xi.f ((qb x0 x8).f0) ((qb x0 x8).f1)).bind fun t489 => (if t489 = true then (some x8) else (qC.l0 k x0 x7 (wrap64 (x8 + 1))))) else (none)) else (none)) else (some (-1))
def qC.f (k : Nat) (l0 : List (S36))  : Option (Int) := qC.l0 k l0 (l0.length : Int) 0
theorem qC.mono_l : ∀ k, (∀ y0 y1 y2, LeO (qC.l0 k y0 y1 y2) (qC.l0 (k + 1) y0 y1 y2))
 | 0 => fun _ _ _ r h => by simp [qC.l0] at h
 | k + 1 => by
  have ih0 := qC.mono_l k
  ·intro y0 y1 y2
   unfold qC.l0
   repeat' first
   | (with_reducible exact ih0 _ _ _)
   | (with_reducible exact LeO.refl _)
   | (with_reducible exact LeO.none _)
   | (with_reducible refine LeO.ite ?_ ?_)
   | (with_reducible refine LeO.bind ?_ (fun _ => ?_))
theorem qC.mono : ∀ a0 k, LeO (qC.f k a0) (qC.f (k + 1) a0) := by
 intro a0 k; have ih0 := qC.mono_l k; unfold qC.f
 repeat' first
   | (with_reducible exact ih0 _ _ _)
   | (with_reducible exact LeO.refl _)
   | (with_reducible exact LeO.none _)
   | (with_reducible refine LeO.ite ?_ ?_)
   | (with_reducible refine LeO.bind ?_ (fun _ => ?_))
set_option maxHeartbeats 8000000 in
set_option maxRecDepth 100000 in
theorem qC.calls (k : Nat) (A0 : Option Addr) (c0 : Nat) (l0 : List (S36))  (r : Int) (w : World) (hr0 : Kd.C k36 w A0 l0.length l0) (hc0 : l0.length ≤ c0) (h : qC.f k l0 = some r) :
  Calls Try.prog 71 #[.slice A0 l0.length c0, .func (.func 64) #[] #[]] w fun e w' => e = .returned (.int .i64 r) ∧ Below w.heap.size w w' := by
 have hu36 := Try.underlying36; have HR0 := qa.mk hr0; have HC0 := qa.mk hc0; clear hr0 hc0; have HB := qa.mk (Below.refl w.heap.size w); have H : (qC.l0 k l0 (l0.length : Int) 0) = some r := h; clear h; have H' := qa.mk H; clear H; go_enter Try.func71, Try.ntmps71; go_wp2
 go_loopg [8] k (fun kq v8 w' => ∃ (x8_1 : Int), v8 = .int .i64 x8_1 ∧ qa (qC.l0 kq l0 (l0.length : Int) x8_1 = some r) ∧ qa (kq ≤ k) ∧ qa (Below w.heap.size w w'))
 case atStart => exact ⟨(0), (by first | rfl | (simp; done) | (simp [*]; done)), H', ⟨Nat.le_refl _⟩, ⟨hb_⟩⟩
 case round =>
  clear H'; (try clear p2); obtain ⟨x8_1, rfl, HA, HK1, HB⟩ := hrel
  cases gk with
  | zero => exact absurd HA.out (by simp [qC.l0])
  | succ k1 =>
   have H := HA.out; clear HA; simp only [qC.l0] at H; by_cases c3 : x8_1 < (l0.length : Int)
   ·rw [if_pos c3] at H
    have c3b0 : decide (x8_1 < (l0.length : Int)) = true := decide_eq_true c3; clear c3; by_cases c4 : 0 ≤ x8_1
    ·rw [if_pos c4] at H
     have c4b0 : decide (0 ≤ x8_1) = true := decide_eq_true c4; clear c4; by_cases c5 : x8_1 < (l0.length : Int)
     ·rw [if_pos c5] at H
      have c5b0 : decide (x8_1 < (l0.length : Int)) = true := decide_eq_true c5; clear c5; replace H := Option.bind_eq_some_iff.mp H; obtain ⟨t489, A60, H⟩ := H; (try dsimp -simprocs only at H); have A6 := qa.mk A60; clear A60; by_cases c7 : t489 = true
      ·subst c7
       rw [if_pos rfl] at H; obtain rfl := Option.some.inj H; have p488 : 0 ≤ (x8_1 : Int) := odt_; have q488 : x8_1 < (l0.length : Int) := odt_; obtain ⟨ad488, e488, hx488_0, hx488_1⟩ := zF HR0.out x8_1 p488 q488; cases e488; replace hx488_0 := (HB.out.cell (World.block_lt_of_cell? w _ hx488_0)).trans hx488_0; replace hx488_1 := (HB.out.cell (World.block_lt_of_cell? w _ hx488_1)).trans hx488_1; replace p488 := eq_true p488; replace q488 := eq_true q488; (go_wp2_with (first | ((with_reducible refine gate_via (s := 11) rfl ?_); refine goesV_ (some 16) rfl rfl Try.func64 (by kernel_rfl) rfl #[.agg #[.int .i64 ((qb l0 x8_1).f0), .int .i64 ((qb l0 x8_1).f1)]] rfl ga_ ?_; (with_reducible refine (xi.calls ((qb l0 x8_1).f0) ((qb l0 x8_1).f1) true _ A6.out).mono ?_); rintro e w8 ⟨rfl, hb⟩; refine ⟨_, rfl, ?_⟩; replace HB := qa.mk (qh (hb_) hb); (try clear hb)))); go_ret; exact ⟨by first | rfl | (simp [qw, qv] <;> rfl) | (simp [*, qw, qv] <;> rfl), hb_⟩
      ·replace c7 := Bool.eq_false_iff.mpr c7
       subst c7; rw [if_neg Bool.false_ne_true] at H; have H' := qa.mk H; clear H; have p488 : 0 ≤ (x8_1 : Int) := odt_; have q488 : x8_1 < (l0.length : Int) := odt_; obtain ⟨ad488, e488, hx488_0, hx488_1⟩ := zF HR0.out x8_1 p488 q488; cases e488; replace hx488_0 := (HB.out.cell (World.block_lt_of_cell? w _ hx488_0)).trans hx488_0; replace hx488_1 := (HB.out.cell (World.block_lt_of_cell? w _ hx488_1)).trans hx488_1; replace p488 := eq_true p488; replace q488 := eq_true q488; go_wp2_with (first | ((with_reducible refine gate_via (s := 11) rfl ?_); refine goesV_ (some 16) rfl rfl Try.func64 (by kernel_rfl) rfl #[.agg #[.int .i64 ((qb l0 x8_1).f0), .int .i64 ((qb l0 x8_1).f1)]] rfl ga_ ?_; (with_reducible refine (xi.calls ((qb l0 x8_1).f0) ((qb l0 x8_1).f1) false _ A6.out).mono ?_); rintro e w9 ⟨rfl, hb⟩; refine ⟨_, rfl, ?_⟩; replace HB := qa.mk (qh (hb_) hb); (try clear hb)))
       go_roundg k1
       case measure => have := HK1.out; omega
       case rel => exact ⟨(wrap64 (x8_1 + 1)), (by first | rfl | (simp; done) | (simp [*]; done)), H', ⟨by have := HK1.out; omega⟩, ⟨hb_⟩⟩
     ·rw [if_neg c5] at H
      exact absurd H (by simp)
    ·rw [if_neg c4] at H
     exact absurd H (by simp)
   ·rw [if_neg c3] at H
    have c3b0 : decide (x8_1 < (l0.length : Int)) = false := decide_eq_false c3; clear c3; obtain rfl := Option.some.inj H; go_wp2; go_ret; exact ⟨by first | rfl | (simp [qw, qv] <;> rfl) | (simp [*, qw, qv] <;> rfl), hb_⟩
def zn.f (k : Nat) (l0 : List (S36))  : Option (Bool) := (qC.f k l0).bind fun t490 => (some (decide (t490 ≥ 0)))
theorem zn.mono : ∀ a0 k, LeO (zn.f k a0) (zn.f (k + 1) a0) := by
 intro a0 k; unfold zn.f
 repeat' first
   | (with_reducible exact qC.mono _ _)
   | (with_reducible exact LeO.refl _)
   | (with_reducible exact LeO.none _)
   | (with_reducible refine LeO.ite ?_ ?_)
   | (with_reducible refine LeO.bind ?_ (fun _ => ?_))
set_option maxHeartbeats 8000000 in
set_option maxRecDepth 100000 in
theorem zn.calls (k : Nat) (A0 : Option Addr) (c0 : Nat) (l0 : List (S36))  (r : Bool) (w : World) (hr0 : Kd.C k36 w A0 l0.length l0) (hc0 : l0.length ≤ c0) (h : zn.f k l0 = some r) :
  Calls Try.prog 63 #[.slice A0 l0.length c0, .func (.func 64) #[] #[]] w fun e w' => e = .returned (.bool r) ∧ Below w.heap.size w w' := by
 have HR0 := qa.mk hr0; have HC0 := qa.mk hc0; clear hr0 hc0; have HB := qa.mk (Below.refl w.heap.size w); (have H : ((qC.f k l0).bind fun t490 => (some (decide (t490 ≥ 0)))) = some r := h); clear h; replace H := Option.bind_eq_some_iff.mp H; obtain ⟨t490, A30, H⟩ := H; (try dsimp -simprocs only at H); have A3 := qa.mk A30; clear A30; obtain rfl := Option.some.inj H; go_enter Try.func63, Try.ntmps63; (go_wp2_with (first | ((with_reducible refine qo (f := 71) rfl ?_); refine qP (some 7) rfl rfl Try.func71 (by kernel_rfl) rfl #[.slice A0 l0.length c0, .func (.func 64) #[] #[]] rfl ga_ ?_; (with_reducible refine (qC.calls k _ _ l0  t490 _ ?side1 ?side2 A3.out).mono ?_); (case side1 => repeat (first | exact HR0.out | (with_reducible refine Kd.qZ ?_ _) | (with_reducible refine Kd.qY ?_ _) | (with_reducible refine Kd.zi ?_))); (case side2 => exact HC0.out); rintro e w4 ⟨rfl, hb⟩; refine ⟨_, rfl, ?_⟩; replace HB := qa.mk (qh (hb_) hb); (try clear hb)))); go_ret; exact ⟨by first | rfl | (simp [qw, qv] <;> rfl) | (simp [*, qw, qv] <;> rfl), hb_⟩
section
attribute [local go_sem high] eqA36
def jr.f (k : Nat) (l0 : List (S36)) : Option (Bool) := (zn.f k l0).bind fun t491 => (some (!t491))
theorem jr.mono : ∀ a0 k, LeO (jr.f k a0) (jr.f (k + 1) a0) := by
 intro a0 k; unfold jr.f
 repeat' first
   | (with_reducible exact zn.mono _ _)
   | (with_reducible exact LeO.refl _)
   | (with_reducible exact LeO.none _)
   | (with_reducible refine LeO.ite ?_ ?_)
   | (with_reducible refine LeO.bind ?_ (fun _ => ?_))
set_option maxHeartbeats 8000000 in
set_option maxRecDepth 100000 in
theorem jr.calls (k : Nat) (A0 : Option Addr) (c0 : Nat) (l0 : List (S36)) (r : Bool) (w : World) (hr0 : Kd.C k36 w A0 l0.length l0) (hc0 : l0.length ≤ c0) (h : jr.f k l0 = some r) :
  Calls Try.prog 50 #[.slice A0 l0.length c0] w fun e w' => e = .returned (.bool r) ∧ Below w.heap.size w w' := by
 have HR0 := qa.mk hr0; have HC0 := qa.mk hc0; clear hr0 hc0; have HB := qa.mk (Below.refl w.heap.size w); (have H : ((zn.f k l0).bind fun t491 => (some (!t491))) = some r := h); clear h; replace H := Option.bind_eq_some_iff.mp H; obtain ⟨t491, A20, H⟩ := H; replace H : (some (!t491)) = some r := H; have A2 := qa.mk A20; clear A20; obtain rfl := Option.some.inj H; go_enter Try.func50, Try.ntmps50; (go_wp2_with (first | ((with_reducible refine qo (f := 63) rfl ?_); refine qP (some 4) rfl rfl Try.func63 (by kernel_rfl) rfl #[.slice A0 l0.length c0, .func (.func 64) #[] #[]] rfl ga_ ?_; (with_reducible refine (zn.calls k _ _ l0  t491 _ ?side1 ?side2 A2.out).mono ?_); (case side1 => repeat (first | exact HR0.out | (with_reducible refine Kd.qZ ?_ _) | (with_reducible refine Kd.qY ?_ _) | (with_reducible refine Kd.zi ?_))); (case side2 => exact HC0.out); rintro e w3 ⟨rfl, hb⟩; refine ⟨_, rfl, ?_⟩; replace HB := qa.mk (qh (hb_) hb); (try clear hb)))); go_ret; exact ⟨by first | rfl | (simp [qw, qv] <;> rfl) | (simp [*, qw, qv] <;> rfl), hb_⟩
/- A contract by hand. -/
instance : Inhabited S36 := ⟨z36⟩
instance : DecidableEq S36 := fun a b => if h : a.f0 = b.f0 ∧ a.f1 = b.f1 then isTrue (by cases a; cases b; simp only at h; simp [h]) else isFalse (fun e => h (by subst e; exact ⟨rfl, rfl⟩))
/-- An element's cells. -/
def xB (x : S36) : List Value := [.int .i64 x.f0, .int .i64 x.f1]
theorem encP36_len (x : S36) : (xB x).length = 2 := rfl
theorem encP36_one (x : S36) (v : Value) (hv : v ∈ xB x) : v.oneCell' = true := by
 simp [xB] at hv; rcases hv with rfl | rfl <;> rfl
theorem kd_M36 (w : World) (base : Nat) (ok : Nat → Prop) (x : S36) (cs : List Value) (h : k36.M w base ok x cs) : cs = xB x := k36_openM h
section
open Go.Sort Go.Shelf Go.Lib
def qW.f (l0 : List S36) : Option (List S36) := if l0.length < 4611686018427387904 then some (compactUpTo l0.toArray l0.length) else none
theorem qW.eql (x y : S36) (w : World) : Sem.run Try.prog (binOp .eql 36 (.agg (xB x).toArray) (.agg (xB y).toArray)) w = .ok (.bool (decide (x = y))) w := by
 have h := eqA36 9998 w x.f0 y.f0 x.f1 y.f1
 have e : (x.f0 == y.f0 && (x.f1 == y.f1)) = decide (x = y) := by
  rw [Bool.eq_iff_iff, Bool.and_eq_true, beq_iff_eq, beq_iff_eq, decide_eq_true_eq]; exact ⟨fun h => by cases x; cases y; simp only at h; simp [h], fun h => by subst h; exact ⟨rfl, rfl⟩⟩
 rw [e] at h; show Sem.run Try.prog (binOp .eql 36 (.agg #[.int .i64 x.f0, .int .i64 x.f1]) (.agg #[.int .i64 y.f0, .int .i64 y.f1])) w = _; simp only [binOp]; simp [Op.equal, Op.maxDepth, h]
theorem qW.neq (x y : S36) (w : World) : Sem.run Try.prog (binOp .neq 36 (.agg (xB x).toArray) (.agg (xB y).toArray)) w = .ok (.bool (!decide (x = y))) w := by
 have h := eqA36 9998 w x.f0 y.f0 x.f1 y.f1
 have e : (x.f0 == y.f0 && (x.f1 == y.f1)) = decide (x = y) := by
  rw [Bool.eq_iff_iff, Bool.and_eq_true, beq_iff_eq, beq_iff_eq, decide_eq_true_eq]; exact ⟨fun h => by cases x; cases y; simp only at h; simp [h], fun h => by subst h; exact ⟨rfl, rfl⟩⟩
 rw [e] at h; show Sem.run Try.prog (binOp .neq 36 (.agg #[.int .i64 x.f0, .int .i64 x.f1]) (.agg #[.int .i64 y.f0, .int .i64 y.f1])) w = _; simp only [binOp]; simp [Op.equal, Op.maxDepth, h]
set_option maxHeartbeats 4000000 in
set_option maxRecDepth 1000000 in
theorem qW.walk (k : Nat) (k0 : 0 < k) (zE : ∀ w, (Go.sizeOf 36).run Try.prog w = .ok k w) (enc : S36 → List Value)
  (heq' : ∀ (x y : S36) (w : World), Sem.run Try.prog (binOp .eql 36 (.agg (enc x).toArray) (.agg (enc y).toArray)) w = .ok (.bool (decide (x = y))) w)
  (hne' : ∀ (x y : S36) (w : World), Sem.run Try.prog (binOp .neq 36 (.agg (enc x).toArray) (.agg (enc y).toArray)) w = .ok (.bool (!decide (x = y))) w)
  (hgd' : ∀ (op : BinOp) (a b : Operand) (x y : S36) (w : World), Sem.run Try.prog (eqGuard op 36 a b (.agg (enc x).toArray) (.agg (enc y).toArray)) w = .ok () w)
  (z : Value) (zr : S36) (hv : ∀ w, (zeroValue 36).run Try.prog w = .ok z w) (hz : z.cells.toList = enc zr)
  (blk off cap : Nat) (d : Array S36) (w : World) (R : RowK enc k w blk off d) (hsz : d.size < 4611686018427387904) (hcap : d.size ≤ cap) :
  Calls Try.prog 51 #[.slice (some ⟨blk, off, none⟩) d.size cap] w fun e w' => e = .returned (.slice (some ⟨blk, off, none⟩) (compactUpTo d d.size).length cap) ∧ ∃ d' : Array S36, SWK enc k w blk off d' w' ∧ d'.size = d.size ∧ d'.toList.take (compactUpTo d d.size).length = compactUpTo d d.size := by
 have aE := Try.isAgg36; have S0 : Aside (SWK enc k w blk off d w) := SWK.start R.hH; (have same : Aside ((∀ j, j < d.size → keeps d j = true) → compactUpTo d d.size = d.toList) := fun hall => by rw [compactUpTo_all d _ hall, range_map_get]); by_cases h2 : d.size < 2
 ·go_enter Try.func51, Try.ntmps51
  go_wp2; go_ret; have e := same.out (fun j hj => keeps_lt_one d j (by omega)); exact ⟨by rw [e]; simp, d, S0.out, rfl, by rw [e, List.take_length]⟩
 ·go_enter Try.func51, Try.ntmps51
  go_wp2
  go_loopg [3] d.size (fun g s3 wr => ∃ kk : Nat, 1 ≤ kk ∧ kk ≤ d.size ∧ d.size - kk ≤ g ∧ s3 = .int .i64 kk ∧ Aside (SWK enc k w blk off d wr) ∧ Aside (∀ j, j < kk → keeps d j = true))
  case atStart => exact ⟨1, Nat.le_refl _, by omega, by omega, rfl, S0, keeps_lt_one d⟩
  case round =>
   clear S0; obtain ⟨kk, hk1, hkk, hg, rfl, S1, hall⟩ := hrel; by_cases hlt : kk < d.size
   ·have l1 : ∀ m, Sem.run Try.prog (loadCellsFrom ⟨blk, off + kk * k, none⟩ 0 k #[]) (wr.drewN m) = .ok (enc d[kk]!).toArray (wr.drewN m) := fun m => (S1.out.drewN m).load R rfl Try.prog kk hlt
    (have l2 : ∀ m, Sem.run Try.prog (loadCellsFrom ⟨blk, off + (kk - 1) * k, none⟩ 0 k #[]) (wr.drewN m) = .ok (enc d[kk - 1]!).toArray (wr.drewN m) := fun m => (S1.out.drewN m).load R rfl Try.prog (kk - 1) (by omega)); generalize hx : d[kk]! = x at l1; generalize hy : d[kk - 1]! = y at l2; have B : Aside (d[kk]! = x ∧ d[kk - 1]! = y) := ⟨hx, hy⟩; clear hx hy; (have ea : ((kk : Int)).toNat = kk := by omega); (have pa : (0 : Int) ≤ (kk : Int) := by omega); (have ba : (kk : Int) < (d.size : Int) := by omega); (have ra : IntKind.i64.wrap ((kk : Int)) = (kk : Int) := by rw [IntKind.wrap_i64]; omega); (have ec : ((kk : Int) - 1).toNat = kk - 1 := by omega); (have pc : (0 : Int) ≤ (kk : Int) - 1 := by omega); (have bc : (kk : Int) - 1 < (d.size : Int) := by omega); (have rc : IntKind.i64.wrap ((kk : Int) - 1) = (kk : Int) - 1 := by rw [IntKind.wrap_i64]; omega); by_cases hdup : x = y
    ·subst hdup
     (go_wp2_with fail); go_quiet (fail); have S2 : Aside (SWK enc k w blk off d (wr.drewN nq)) := S1.out.drewN nq; generalize wr.drewN nq = w2 at S2 ⊢; clear l1 l2 S1 ea pa ba ra ec pc bc rc; go_wp2
     go_loopg [3, 5] d.size (fun g s3 s5 wr => ∃ (ik k2 : Nat) (dk : Array S36), s3 = .int .i64 ik ∧ s5 = .int .i64 k2 ∧ 1 ≤ k2 ∧ kk + k2 ≤ d.size ∧ d.size - (kk + k2) ≤ g ∧ Aside (SWK enc k w blk off dk wr) ∧ Aside (CompInv d (kk + k2) ik dk))
     case atStart => exact ⟨kk, 1, d, rfl, rfl, Nat.le_refl _, by omega, by omega, S2, CompInv.start hall.out (keeps_neg (by omega) (by rw [B.out.1, B.out.2]))⟩
     case round =>
      clear S2; obtain ⟨ik, k2, dk, rfl, rfl, h1, hle, hg2, S3, I2⟩ := hrel; have hik := I2.out.lt; have hds := I2.out.size; by_cases hlt2 : kk + k2 < d.size
      ·have l3 : ∀ m, Sem.run Try.prog (loadCellsFrom ⟨blk, off + kk * k + k2 * k, none⟩ 0 k #[]) (wr.drewN m) = .ok (enc d[kk + k2]!).toArray (wr.drewN m) := fun m => by
        have h := (S3.out.drewN m).load R hds Try.prog (kk + k2) (by omega); rwa [I2.out.high (kk + k2) (by omega), Nat.add_mul, ← Nat.add_assoc] at h
       have l4 : ∀ m, Sem.run Try.prog (loadCellsFrom ⟨blk, off + kk * k + (k2 - 1) * k, none⟩ 0 k #[]) (wr.drewN m) = .ok (enc d[kk + k2 - 1]!).toArray (wr.drewN m) := fun m => by
        have h := (S3.out.drewN m).load R hds Try.prog (kk + k2 - 1) (by omega); rwa [I2.out.high (kk + k2 - 1) (by omega), show kk + k2 - 1 = kk + (k2 - 1) by omega, Nat.add_mul, ← Nat.add_assoc, show kk + (k2 - 1) = kk + k2 - 1 by omega] at h
       (have s5 : ∀ m, Sem.run Try.prog (storeCells ⟨blk, off + ik * k, none⟩ (enc d[kk + k2]!) 0) (wr.drewN m) = .ok () ((wr.drewN m).setCells blk (off + ik * k) (enc d[kk + k2]!)) := fun m => swk_stE (S3.out.drewN m) R hds Try.prog ik (by omega) _); have n5 : (enc d[kk + k2]!).length = k := R.hk _; generalize hu : d[kk + k2]! = u at l3 s5 n5; generalize hw : d[kk + k2 - 1]! = v at l4; have C : Aside (d[kk + k2]! = u ∧ d[kk + k2 - 1]! = v) := ⟨hu, hw⟩; clear hu hw; (have ea : ((k2 : Int)).toNat = k2 := by omega); (have pa : (0 : Int) ≤ (k2 : Int) := by omega); (have ba : (k2 : Int) < ((d.size - kk : Nat) : Int) := by omega); (have ra : IntKind.i64.wrap ((k2 : Int)) = (k2 : Int) := by rw [IntKind.wrap_i64]; omega); (have ec : ((k2 : Int) - 1).toNat = k2 - 1 := by omega); (have pc : (0 : Int) ≤ (k2 : Int) - 1 := by omega); (have bc : (k2 : Int) - 1 < ((d.size - kk : Nat) : Int) := by omega); (have rc : IntKind.i64.wrap ((k2 : Int) - 1) = (k2 : Int) - 1 := by rw [IntKind.wrap_i64]; omega); by_cases huv : u = v
       ·subst huv
        (go_wp2_with fail); go_quiet (fail); have S4 : Aside (SWK enc k w blk off dk (wr.drewN nq)) := S3.out.drewN nq; generalize wr.drewN nq = w4 at S4 ⊢; clear l3 l4 s5 n5 S3 ea pa ba ra ec pc bc rc; go_wp2
        go_roundg (d.size - (kk + (k2 + 1)))
        case measure => omega
        case rel => exact ⟨ik, k2 + 1, dk, rfl, by go_num, by omega, by omega, Nat.le_refl _, S4, I2.out.skip (keeps_neg (by omega) (by rw [C.out.1, C.out.2]))⟩
       ·go_wp2_with fail
        go_quiet (fail); have S4 : Aside (SWK enc k w blk off dk (wr.drewN nq)) := S3.out.drewN nq; have S5 : Aside (SWK enc k w blk off (dk.setIfInBounds ik u) ((wr.drewN nq).setCells blk (off + ik * k) (enc u))) := swk_put S4.out R.hk R.hblk ik (by omega) u; have l6 := l3 nq; have s6 := s5 nq; clear l3 l4 s5; generalize wr.drewN nq = w4 at S4 S5 l6 s6 ⊢; (have bk : (ik : Int) < (d.size : Int) := by omega); go_wp2
        go_roundg (d.size - (kk + (k2 + 1)))
        case measure => omega
        case rel => exact ⟨ik + 1, k2 + 1, dk.setIfInBounds ik u, by go_num, by go_num, by omega, by omega, Nat.le_refl _, S5, by have := I2.out.keep hlt2 (keeps_pos (by rw [C.out.1, C.out.2]; exact huv)); rwa [C.out.1] at this⟩
      ·have hend : kk + k2 = d.size := by omega
       have hcl : ∀ ty, (Builtin.clear_ #[28] ty #[.slice (some ⟨blk, off + ik * k, none⟩) (d.size - ik) (cap - ik)]).run Try.prog wr = .ok (.tuple #[]) (wr.setCells blk (off + ik * k) ((List.replicate (d.size - ik) zr).flatMap enc)) :=
        fun ty => clear_K S3.out R hds k0 28 36 ty z zr Try.underlying28 hv hz ik (d.size - ik) (cap - ik) (by omega) (by omega)
       have S6 : Aside (SWK enc k w blk off (layA dk ik (List.replicate (d.size - ik) zr)) (wr.setCells blk (off + ik * k) ((List.replicate (d.size - ik) zr).flatMap enc))) := swk_lay S3.out R.hk R.hblk ik _ (by simp; omega); go_wp2; go_ret; have hI := I2.out; rw [hend] at hI; (refine ⟨by rw [hI.len]; rfl, _, S6.out, by rw [size_layA]; exact hds, ?_⟩); have hlen := hI.len; rw [layA_list _ _ _ (by simp; omega)]; rw [hlen]; (have e9 : ik ≤ dk.toList.length := by simp; omega); rw [List.append_assoc, List.take_append_of_le_length (by simp; omega), List.take_take, Nat.min_self]; apply List.ext_getElem?; intro j; by_cases hj : j < ik
       ·rw [List.getElem?_take_of_lt hj, Array.getElem?_toList, hI.low j hj, Array.getElem?_eq_getElem (by omega), getElem!_pos dk j (by omega)]
       ·rw [List.getElem?_eq_none (by simp; omega), List.getElem?_eq_none (by omega)]
    ·go_wp2_with fail
     go_quiet (fail); have S2 : Aside (SWK enc k w blk off d (wr.drewN nq)) := S1.out.drewN nq; generalize wr.drewN nq = w2 at S2 ⊢; clear l1 l2 S1 ea pa ba ra ec pc bc rc; go_wp2
     go_roundg (d.size - (kk + 1))
     case measure => omega
     case rel =>
      (refine ⟨kk + 1, by omega, by omega, Nat.le_refl _, by go_num, S2, show Aside _ from fun j hj => ?_⟩); by_cases e : j = kk
      ·subst e
       exact keeps_pos (by rw [B.out.1, B.out.2]; exact hdup)
      ·exact hall.out j (by omega)
   ·have : kk = d.size := by omega
    subst this; go_wp2; go_ret; have e := same.out (fun j hj => hall.out j hj); exact ⟨by rw [e]; simp, d, S1.out, rfl, by rw [e, List.take_length]⟩
theorem qW.none (A0 : Option Addr) (c0 : Nat) (w : World) : Calls Try.prog 51 #[.slice A0 0 c0] w fun e w' => e = .returned (.slice A0 0 c0) ∧ w' = w := by
 go_enter Try.func51, Try.ntmps51; go_wp2; go_ret; exact ⟨rfl, rfl⟩
theorem qW.calls (P0_ : Nat → Prop) (u9000_ : Value) (l0 : List S36) (r : List S36) (w0 w : World) (hB : Below w0.heap.size w0 w) (ho0 : Kd.R k36 36 w w0.heap.size P0_ u9000_ l0) (h : qW.f l0 = some r) :
  Calls Try.prog 51 #[u9000_] w fun e w' => ∃ v0_ : Value, e = .returned (v0_) ∧ Kd.R k36 36 w' w0.heap.size (fun k_ => (P0_ k_ ∨ w.heap.size ≤ k_)) v0_ r ∧ Below w0.heap.size w0 w' ∧ Kept w w' (fun k_ => P0_ k_) := by
 have hbig : l0.length < 4611686018427387904 := by
  rcases Nat.lt_or_ge l0.length 4611686018427387904 with h0 | h0
  ·exact h0
  ·unfold qW.f at h
   rw [if_neg (by omega)] at h; cases h
 obtain rfl : compactUpTo l0.toArray l0.length = r := by
  unfold qW.f at h; rw [if_pos hbig] at h; exact Option.some.inj h
 rcases Nat.eq_zero_or_pos l0.length with hz | hne
 ·obtain rfl : l0 = [] := List.length_eq_zero_iff.1 hz
  obtain ⟨A_, c_, rfl⟩ := Kd.zO ho0; (refine (qW.none A_ c_ w).mono fun e w' hq => ?_); obtain ⟨rfl, rfl⟩ := hq; exact ⟨_, rfl, Kd.qz ho0 (fun _ hk => .inl hk), hB, ⟨Nat.le_refl _, fun _ _ _ => rfl⟩⟩
 obtain ⟨g, cap, cur, rfl, hP, hg, hlt, hh, hl, hm, hs, hH⟩ := own_holdsK k36 36 xB rfl encP36_len kd_M36 ho0 hne; have hcon := qW.walk 2 (by decide) Try.sizeOf36 xB qW.eql qW.neq (fun op a b x y w => run_eqGuard_agg w op 36 a b _ _ (by kernel_rfl)) (.agg #[.int .i64 0, .int .i64 0]) z36 Try.zeroValue36 rfl g 0 cap l0.toArray w ⟨encP36_len, encP36_one, hH, hlt⟩ (by simpa using hbig) (by simpa using hl); rw [List.size_toArray] at hcon; (refine hcon.mono fun e w' hq => ?_); obtain ⟨rfl, d', ⟨m, os, rfl⟩, hds, htk⟩ := hq; (have hds' : d'.size = l0.length := by simpa using hds); obtain ⟨hR, hsz, hblk⟩ := sort_own k36 36 xB rfl encP36_len (fun w base ok x => jz w base ok x) (n := m) (os := os) (d' := d') hP hg hlt hh hl hm hs hds'
 have hle : (compactUpTo l0.toArray l0.length).length ≤ l0.length := by
  unfold compactUpTo; rw [List.length_map]; exact Nat.le_trans (List.length_filter_le _ _) (by simp)
 have hT := Kd.R_take (m := (compactUpTo l0.toArray l0.length).length) hR (Nat.le_trans hle (Nat.le_of_eq (by rw [Array.length_toList (xs := d'), hds']))); rw [htk] at hT; (refine ⟨_, rfl, Kd.qz hT (fun _ hk => .inl hk), ⟨hB.os, hB.tape, hB.output, Nat.le_trans hB.size hsz, fun k hk => ?_⟩, ⟨hsz, fun k hk hn => hblk k hk (fun e_ => hn (e_ ▸ hP))⟩⟩); rw [hblk k (Nat.lt_of_lt_of_le hk hB.size) (by omega)]; exact hB.block k hk
end
def zw.l0 : Nat → Int → List Int → Int → Int → Option (Int)
 | 0, _, _, _, _ => none
 | k + 1, x3, x6, x7, x8 => if x8 < x7 then (if 0 ≤ x8 then (if x8 < (x6.length : Int) then (if (rd x6 x8) = x3 then (zw.l0 k x3 x6 x7 (wrap64 (x8 + 1))) else (some (rd x6 x8))) else (none)) else (none)) else (some x3)
def zw.f (k : Nat) (l0 : List Int) : Option (Int) := zw.l0 k 0 l0 (l0.length : Int) 0
theorem zw.mono_l : ∀ k, (∀ y0 y1 y2 y3, LeO (zw.l0 k y0 y1 y2 y3) (zw.l0 (k + 1) y0 y1 y2 y3))
 | 0 => fun _ _ _ _ r h => by simp [zw.l0] at h
 | k + 1 => by
  have ih0 := zw.mono_l k
  ·intro y0 y1 y2 y3
   unfold zw.l0
   repeat' first
   | (with_reducible exact ih0 _ _ _ _)
   | (with_reducible exact LeO.refl _)
   | (with_reducible exact LeO.none _)
   | (with_reducible refine LeO.ite ?_ ?_)
   | (with_reducible refine LeO.bind ?_ (fun _ => ?_))
theorem zw.mono : ∀ a0 k, LeO (zw.f k a0) (zw.f (k + 1) a0) := by
 intro a0 k; have ih0 := zw.mono_l k; unfold zw.f
 repeat' first
   | (with_reducible exact ih0 _ _ _ _)
   | (with_reducible exact LeO.refl _)
   | (with_reducible exact LeO.none _)
   | (with_reducible refine LeO.ite ?_ ?_)
   | (with_reducible refine LeO.bind ?_ (fun _ => ?_))
set_option maxHeartbeats 8000000 in
set_option maxRecDepth 100000 in
theorem zw.calls (k : Nat) (A0 : Option Addr) (c0 : Nat) (l0 : List Int) (r : Int) (w : World) (hr0 : Kd.C (Kd.int .i64) w A0 l0.length l0) (hc0 : l0.length ≤ c0) (h : zw.f k l0 = some r) :
  Calls Try.prog 74 #[.slice A0 l0.length c0] w fun e w' => e = .returned (.int .i64 r) ∧ zd w w' := by
 have HR0 := qa.mk hr0; have HC0 := qa.mk hc0; clear hr0 hc0; have H : (zw.l0 k 0 l0 (l0.length : Int) 0) = some r := h; clear h; have H' := qa.mk H; clear H; go_enter Try.func74, Try.ntmps74; go_wp2
 go_loopg [8] k (fun kq v8 w' => ∃ (x8_1 : Int), v8 = .int .i64 x8_1 ∧ qa (zw.l0 kq 0 l0 (l0.length : Int) x8_1 = some r) ∧ qa (kq ≤ k) ∧ zd w w')
 case atStart => exact ⟨(0), (by first | rfl | (simp; done) | (simp [*]; done)), H', ⟨Nat.le_refl _⟩, by repeat (first | exact zd.refl _ | apply zd.step)⟩
 case round =>
  clear H'; obtain ⟨x8_1, rfl, HA, HK1, ⟨m1, rfl⟩⟩ := hrel
  cases gk with
  | zero => exact absurd HA.out (by simp [zw.l0])
  | succ k1 =>
   have H := HA.out; clear HA; simp only [zw.l0] at H; by_cases c2 : x8_1 < (l0.length : Int)
   ·rw [if_pos c2] at H
    have c2b0 : decide (x8_1 < (l0.length : Int)) = true := decide_eq_true c2; clear c2; by_cases c3 : 0 ≤ x8_1
    ·rw [if_pos c3] at H
     have c3b0 : decide (0 ≤ x8_1) = true := decide_eq_true c3; clear c3; by_cases c4 : x8_1 < (l0.length : Int)
     ·rw [if_pos c4] at H
      have c4b0 : decide (x8_1 < (l0.length : Int)) = true := decide_eq_true c4; clear c4; by_cases c5 : (rd l0 x8_1) = 0
      ·rw [if_pos c5] at H
       have c5b0 : ((rd l0 x8_1) == 0) = true := beq_iff_eq.mpr c5; have c5b1 : ((rd l0 x8_1) != 0) = false := bne_eq_false_iff_eq.mpr c5; clear c5; have H' := qa.mk H; clear H; have p492 : 0 ≤ (x8_1 : Int) := odt_; have q492 : x8_1 < (l0.length : Int) := odt_; obtain ⟨ad492, e492, hx492_0⟩ := Kd.xo HR0.out x8_1 p492 q492; cases e492; replace p492 := eq_true p492; replace q492 := eq_true q492; go_wp2
       go_roundg k1
       case measure => have := HK1.out; omega
       case rel => exact ⟨(wrap64 (x8_1 + 1)), (by first | rfl | (simp; done) | (simp [*]; done)), H', ⟨by have := HK1.out; omega⟩, by repeat (first | exact zd.refl _ | apply zd.step)⟩
      ·rw [if_neg c5] at H
       have c5b0 : ((rd l0 x8_1) == 0) = false := beq_eq_false_iff_ne.mpr c5; have c5b1 : ((rd l0 x8_1) != 0) = true := bne_iff_ne.mpr c5; obtain rfl := Option.some.inj H; have p492 : 0 ≤ (x8_1 : Int) := odt_; have q492 : x8_1 < (l0.length : Int) := odt_; obtain ⟨ad492, e492, hx492_0⟩ := Kd.xo HR0.out x8_1 p492 q492; cases e492; replace p492 := eq_true p492; replace q492 := eq_true q492; go_wp2; go_ret; exact ⟨by first | rfl | (simp; done) | (simp [*]; done), by repeat (first | exact zd.refl _ | apply zd.step)⟩
     ·rw [if_neg c4] at H
      exact absurd H (by simp)
    ·rw [if_neg c3] at H
     exact absurd H (by simp)
   ·rw [if_neg c2] at H
    have c2b0 : decide (x8_1 < (l0.length : Int)) = false := decide_eq_false c2; clear c2; obtain rfl := Option.some.inj H; go_wp2; go_ret; exact ⟨by first | rfl | (simp; done) | (simp [*]; done), by repeat (first | exact zd.refl _ | apply zd.step)⟩
def cmp_isNaN_int.f (a0 : Int) : Option (Bool) := some (a0 != a0)
set_option maxHeartbeats 8000000 in
set_option maxRecDepth 100000 in
theorem cmp_isNaN_int.calls (a0 : Int) (r : Bool) (w : World) (h : cmp_isNaN_int.f a0 = some r) :
  Calls Try.prog 87 #[.int .i64 a0] w fun e w' => e = .returned (.bool r) ∧ zd w w' := by
 have H : (some (a0 != a0)) = some r := h; clear h; obtain rfl := Option.some.inj H; go_enter Try.func87, Try.ntmps87; go_wp2; go_ret; exact ⟨by first | rfl | (simp; done) | (simp [*]; done), by repeat (first | exact zd.refl _ | apply zd.step)⟩
end
def cmp_Compare_int.f (a0 : Int) (a1 : Int) : Option (Int) := (cmp_isNaN_int.f a0).bind fun t493 => ((cmp_isNaN_int.f a1).bind fun t494 => (if t493 = true then (if t494 = true then (some 0) else (some (-1))) else (if t494 = true then (some 1) else (if a0 < a1 then (some (-1)) else (if a0 > a1 then (some 1) else (some 0))))))
set_option maxHeartbeats 8000000 in
set_option maxRecDepth 100000 in
theorem cmp_Compare_int.calls (a0 : Int) (a1 : Int) (r : Int) (w : World) (h : cmp_Compare_int.f a0 a1 = some r) :
  Calls Try.prog 75 #[.int .i64 a0, .int .i64 a1] w fun e w' => e = .returned (.int .i64 r) ∧ zd w w' := by
 (have H : ((cmp_isNaN_int.f a0).bind fun t493 => ((cmp_isNaN_int.f a1).bind fun t494 => (if t493 = true then (if t494 = true then (some 0) else (some (-1))) else (if t494 = true then (some 1) else (if a0 < a1 then (some (-1)) else (if a0 > a1 then (some 1) else (some 0))))))) = some r := h); clear h; replace H := Option.bind_eq_some_iff.mp H; obtain ⟨t493, A30, H⟩ := H; (try dsimp -simprocs only at H); have A3 := qa.mk A30; clear A30; replace H := Option.bind_eq_some_iff.mp H; obtain ⟨t494, A40, H⟩ := H; (try dsimp -simprocs only at H); have A4 := qa.mk A40; clear A40; by_cases c5 : t493 = true
 ·subst c5
  rw [if_pos rfl] at H; by_cases c6 : t494 = true
  ·subst c6
   rw [if_pos rfl] at H; obtain rfl := Option.some.inj H; go_enter Try.func75, Try.ntmps75; (go_wp2_with (first | ((with_reducible refine qo (f := 87) rfl ?_); refine qP (some 8) rfl rfl Try.func87 (by kernel_rfl) rfl #[.int .i64 a0] rfl ga_ ?_; (with_reducible refine (cmp_isNaN_int.calls a0 true _ A3.out).mono ?_); rintro e w' ⟨rfl, ⟨nd, rfl⟩⟩; refine ⟨_, rfl, ?_⟩) | ((with_reducible refine qo (f := 87) rfl ?_); refine qP (some 10) rfl rfl Try.func87 (by kernel_rfl) rfl #[.int .i64 a1] rfl ga_ ?_; (with_reducible refine (cmp_isNaN_int.calls a1 true _ A4.out).mono ?_); rintro e w' ⟨rfl, ⟨nd, rfl⟩⟩; refine ⟨_, rfl, ?_⟩))); go_ret; exact ⟨by first | rfl | (simp; done) | (simp [*]; done), by repeat (first | exact zd.refl _ | apply zd.step)⟩
  ·replace c6 := Bool.eq_false_iff.mpr c6
   subst c6; rw [if_neg Bool.false_ne_true] at H; obtain rfl := Option.some.inj H; go_enter Try.func75, Try.ntmps75; (go_wp2_with (first | ((with_reducible refine qo (f := 87) rfl ?_); refine qP (some 8) rfl rfl Try.func87 (by kernel_rfl) rfl #[.int .i64 a0] rfl ga_ ?_; (with_reducible refine (cmp_isNaN_int.calls a0 true _ A3.out).mono ?_); rintro e w' ⟨rfl, ⟨nd, rfl⟩⟩; refine ⟨_, rfl, ?_⟩) | ((with_reducible refine qo (f := 87) rfl ?_); refine qP (some 10) rfl rfl Try.func87 (by kernel_rfl) rfl #[.int .i64 a1] rfl ga_ ?_; (with_reducible refine (cmp_isNaN_int.calls a1 false _ A4.out).mono ?_); rintro e w' ⟨rfl, ⟨nd, rfl⟩⟩; refine ⟨_, rfl, ?_⟩))); go_ret; exact ⟨by first | rfl | (simp; done) | (simp [*]; done), by repeat (first | exact zd.refl _ | apply zd.step)⟩
 ·replace c5 := Bool.eq_false_iff.mpr c5
  subst c5; rw [if_neg Bool.false_ne_true] at H; by_cases c7 : t494 = true
  ·subst c7
   rw [if_pos rfl] at H; obtain rfl := Option.some.inj H; go_enter Try.func75, Try.ntmps75; (go_wp2_with (first | ((with_reducible refine qo (f := 87) rfl ?_); refine qP (some 8) rfl rfl Try.func87 (by kernel_rfl) rfl #[.int .i64 a0] rfl ga_ ?_; (with_reducible refine (cmp_isNaN_int.calls a0 false _ A3.out).mono ?_); rintro e w' ⟨rfl, ⟨nd, rfl⟩⟩; refine ⟨_, rfl, ?_⟩) | ((with_reducible refine qo (f := 87) rfl ?_); refine qP (some 10) rfl rfl Try.func87 (by kernel_rfl) rfl #[.int .i64 a1] rfl ga_ ?_; (with_reducible refine (cmp_isNaN_int.calls a1 true _ A4.out).mono ?_); rintro e w' ⟨rfl, ⟨nd, rfl⟩⟩; refine ⟨_, rfl, ?_⟩))); go_ret; exact ⟨by first | rfl | (simp; done) | (simp [*]; done), by repeat (first | exact zd.refl _ | apply zd.step)⟩
  ·replace c7 := Bool.eq_false_iff.mpr c7
   subst c7; rw [if_neg Bool.false_ne_true] at H; by_cases c8 : a0 < a1
   ·rw [if_pos c8] at H
    have c8b0 : decide (a0 < a1) = true := decide_eq_true c8; clear c8; obtain rfl := Option.some.inj H; go_enter Try.func75, Try.ntmps75; (go_wp2_with (first | ((with_reducible refine qo (f := 87) rfl ?_); refine qP (some 8) rfl rfl Try.func87 (by kernel_rfl) rfl #[.int .i64 a0] rfl ga_ ?_; (with_reducible refine (cmp_isNaN_int.calls a0 false _ A3.out).mono ?_); rintro e w' ⟨rfl, ⟨nd, rfl⟩⟩; refine ⟨_, rfl, ?_⟩) | ((with_reducible refine qo (f := 87) rfl ?_); refine qP (some 10) rfl rfl Try.func87 (by kernel_rfl) rfl #[.int .i64 a1] rfl ga_ ?_; (with_reducible refine (cmp_isNaN_int.calls a1 false _ A4.out).mono ?_); rintro e w' ⟨rfl, ⟨nd, rfl⟩⟩; refine ⟨_, rfl, ?_⟩))); go_ret; exact ⟨by first | rfl | (simp; done) | (simp [*]; done), by repeat (first | exact zd.refl _ | apply zd.step)⟩
   ·rw [if_neg c8] at H
    have c8b0 : decide (a0 < a1) = false := decide_eq_false c8; clear c8; by_cases c9 : a0 > a1
    ·rw [if_pos c9] at H
     have c9b0 : decide (a1 < a0) = true := decide_eq_true c9; clear c9; obtain rfl := Option.some.inj H; go_enter Try.func75, Try.ntmps75; (go_wp2_with (first | ((with_reducible refine qo (f := 87) rfl ?_); refine qP (some 8) rfl rfl Try.func87 (by kernel_rfl) rfl #[.int .i64 a0] rfl ga_ ?_; (with_reducible refine (cmp_isNaN_int.calls a0 false _ A3.out).mono ?_); rintro e w' ⟨rfl, ⟨nd, rfl⟩⟩; refine ⟨_, rfl, ?_⟩) | ((with_reducible refine qo (f := 87) rfl ?_); refine qP (some 10) rfl rfl Try.func87 (by kernel_rfl) rfl #[.int .i64 a1] rfl ga_ ?_; (with_reducible refine (cmp_isNaN_int.calls a1 false _ A4.out).mono ?_); rintro e w' ⟨rfl, ⟨nd, rfl⟩⟩; refine ⟨_, rfl, ?_⟩))); go_ret; exact ⟨by first | rfl | (simp; done) | (simp [*]; done), by repeat (first | exact zd.refl _ | apply zd.step)⟩
    ·rw [if_neg c9] at H
     have c9b0 : decide (a1 < a0) = false := decide_eq_false c9; clear c9; obtain rfl := Option.some.inj H; go_enter Try.func75, Try.ntmps75; (go_wp2_with (first | ((with_reducible refine qo (f := 87) rfl ?_); refine qP (some 8) rfl rfl Try.func87 (by kernel_rfl) rfl #[.int .i64 a0] rfl ga_ ?_; (with_reducible refine (cmp_isNaN_int.calls a0 false _ A3.out).mono ?_); rintro e w' ⟨rfl, ⟨nd, rfl⟩⟩; refine ⟨_, rfl, ?_⟩) | ((with_reducible refine qo (f := 87) rfl ?_); refine qP (some 10) rfl rfl Try.func87 (by kernel_rfl) rfl #[.int .i64 a1] rfl ga_ ?_; (with_reducible refine (cmp_isNaN_int.calls a1 false _ A4.out).mono ?_); rintro e w' ⟨rfl, ⟨nd, rfl⟩⟩; refine ⟨_, rfl, ?_⟩))); go_ret; exact ⟨by first | rfl | (simp; done) | (simp [*]; done), by repeat (first | exact zd.refl _ | apply zd.step)⟩
def zv.f (k : Nat) (a0_0 : Int) (a0_1 : Int) (a1_0 : Int) (a1_1 : Int) : Option (Int) := (cmp_Compare_int.f a0_0 a1_0).bind fun t497 => ((cmp_Compare_int.f a0_1 a1_1).bind fun t498 => ((zw.f k (([t497, t498] : List Int))).bind fun t502 => (some t502)))
theorem zv.mono : ∀ a0 a1 a2 a3 k, LeO (zv.f k a0 a1 a2 a3) (zv.f (k + 1) a0 a1 a2 a3) := by
 intro a0 a1 a2 a3 k; unfold zv.f
 repeat' first
   | (with_reducible exact zw.mono _ _)
   | (with_reducible exact LeO.refl _)
   | (with_reducible exact LeO.none _)
   | (with_reducible refine LeO.ite ?_ ?_)
   | (with_reducible refine LeO.bind ?_ (fun _ => ?_))
def zv.T1 : Bool × List (List Nat × List Nat) := (true, [([], []), ([0], [0]), ([], []), ([2], [2]), ([1, 3], [1, 3]), ([], []), ([5], [5]), ([], []), ([7], [7]), ([6, 8, 4], [6, 8]), ([4, 9], [4, 9]), ([10, 9], [10]), ([11, 11, 0, 1, 2, 3, 4, 5, 6, 7, 8, 9, 10, 11], [11])])
def zv.B1 : List Nat := [0, 1, 0, 4, 15, 0, 32, 0, 128, 511, 1023, 2047, 4095]
theorem zv.tab1 : rtab .any (opsOf Try.f67 1) = zv.T1 := by kernel_rfl
theorem zv.bits1 : xu zv.T1.2 zv.B1 = true := by kernel_rfl
set_option maxHeartbeats 8000000 in
set_option maxRecDepth 100000 in
theorem zv.calls (k : Nat) (a0_0 : Int) (a0_1 : Int) (a1_0 : Int) (a1_1 : Int) (r : Int) (w : World) (h : zv.f k a0_0 a0_1 a1_0 a1_1 = some r) :
  Calls Try.prog 67 #[.agg #[.int .i64 a0_0, .int .i64 a0_1], .agg #[.int .i64 a1_0, .int .i64 a1_1]] w fun e w' => e = .returned (.int .i64 r) ∧ Below w.heap.size w w' := by
 have hu36 := Try.underlying36; have HB := qa.mk (Below.refl w.heap.size w); (have H : ((cmp_Compare_int.f a0_0 a1_0).bind fun t497 => ((cmp_Compare_int.f a0_1 a1_1).bind fun t498 => ((zw.f k (([t497, t498] : List Int))).bind fun t502 => (some t502)))) = some r := h); clear h; replace H := Option.bind_eq_some_iff.mp H; obtain ⟨t497, A30, H⟩ := H; (try dsimp -simprocs only at H); have A3 := qa.mk A30; clear A30; replace H := Option.bind_eq_some_iff.mp H; obtain ⟨t498, A40, H⟩ := H; (try dsimp -simprocs only at H); have A4 := qa.mk A40; clear A40; obtain ⟨y499, hy499⟩ : ∃ y_ : List Int, y_ = (([t497, t498] : List Int)) := ⟨_, rfl⟩; (replace H : ((zw.f k y499).bind fun t502 => (some t502)) = some r := by first | (rw [hy499]; with_reducible exact H) | (have H2_ := (Option.bind_some _ _).symm.trans H; rw [hy499]; with_reducible exact H2_) | (have H2_ := (Option.bind_some _ _).symm.trans H; with_reducible exact H2_) | with_reducible exact H | (rw [hy499]; exact H) | exact H); have Ny499 := qa.mk hy499; clear hy499; replace H := Option.bind_eq_some_iff.mp H; obtain ⟨t502, A50, H⟩ := H; replace H : (some t502) = some r := H; have A5 := qa.mk A50; clear A50; obtain rfl := Option.some.inj H; go_enter Try.func67, Try.ntmps67
 try go_wp2_with (first | ((with_reducible refine qN (N := 2) rfl ?_); refine qO ?hg (N := 2) ?hd (cs := #[.int .i64 a0_0, .int .i64 a0_1]) (t := 36) ?hr ?_; (case hd => rfl); (case hg => rfl); (case hr => first | (go_simp; done) | (go_simp; rfl)); intro gb495 hg w6 hbox hb; have BK495 := qa.mk (hbox); have GW495 := qa.mk ((by rw [hg]; exact (qn (hb_)) : w.heap.size ≤ gb495)); have GE495 := qa.mk ((by rw [hg]; exact (qn (hb_)) : w.heap.size ≤ gb495)); replace HB := qa.mk (qh (hb_) hb); clear hb hbox hg) | ((with_reducible refine qN (N := 3) rfl ?_); refine qO ?hg (N := 3) ?hd (cs := #[.int .i64 a1_0, .int .i64 a1_1]) (t := 36) ?hr ?_; (case hd => rfl); (case hg => rfl); (case hr => first | (go_simp; done) | (go_simp; rfl)); intro gb496 hg w7 hbox hb; have BK496 := qa.mk (hbox); have GW496 := qa.mk ((by rw [hg]; exact (qn (hbg_)) : w.heap.size ≤ gb496)); have GE496 := qa.mk ((by rw [hg]; exact (qn (hbg_)) : w.heap.size ≤ gb496)); replace HB := qa.mk (qh (hbg_) hb); have NB495_496 := qa.mk ((by rw [hg]; exact Nat.ne_of_lt (qR (bk_ BK495.out)) : gb495 ≠ gb496)); have NB496_495 := qa.mk ((by rw [hg]; exact Nat.ne_of_gt (qR (bk_ BK495.out)) : gb496 ≠ gb495)); replace BK495 := bb_ BK495 hb; clear hb hbox hg))
 replace BK495 := qa.mk (qx BK495.out); replace BK496 := qa.mk (qx BK496.out); replace HB := qa.mk (qj HB.out); (refine xr (n := 13) (S := fun w' => w'.cell? ⟨gb495, 0, none⟩ = some (.int .i64 a0_0) ∧ w'.cell? ⟨gb495, 1, none⟩ = some (.int .i64 a0_1) ∧ w'.cell? ⟨gb496, 0, none⟩ = some (.int .i64 a1_0) ∧ w'.cell? ⟨gb496, 1, none⟩ = some (.int .i64 a1_1)) (ds := []) (fl 0 13) (by kernel_rfl) rfl rfl ⟨(qc BK495.out 0).trans rfl, (qc BK495.out 1).trans rfl, (qc BK496.out 0).trans rfl, (qc BK496.out 1).trans rfl⟩ (fun hHeld => ?_); refine jM zv.tab1 zv.bits1 (fun HT_ HW_ => ?_)); generalize w7.drew = w8 at BK495 BK496 HB hHeld ⊢; refine qQ (i := 0) (N := some 5) (v := ?_) (a' := ?_) (fl 1 13) rfl rfl (qG HT_.out (by kernel_rfl)) (fun _ _ _ h => h) (Or.inl ⟨by rfl, ?_⟩) ?_ ?_; rotate_left
 ·intro w'
  go_simp; with_reducible rfl
 rotate_left
 ·simp only [Act.put, sA, sB, sC, qA, qB]
  rfl
 refine qQ (i := 2) (N := some 7) (v := ?_) (a' := ?_) #[true, false, true, false, false, false, false, false, false, false, false, false, false] rfl rfl (qG HT_.out (by kernel_rfl)) (fun _ _ _ h => h) (Or.inl ⟨by rfl, ?_⟩) ?_ ?_; rotate_left
 ·intro w'
  go_simp; with_reducible rfl
 rotate_left
 ·simp only [Act.put, sA, sB, sC, qA, qB]
  rfl
 refine qQ (i := 5) (N := some 10) (v := ?_) (a' := ?_) #[true, false, true, false, false, true, false, false, false, false, false, false, false] rfl rfl (qG HT_.out (by kernel_rfl)) (fun _ _ _ h => h) (Or.inl ⟨by rfl, ?_⟩) ?_ ?_; rotate_left
 ·intro w'
  go_simp; with_reducible rfl
 rotate_left
 ·simp only [Act.put, sA, sB, sC, qA, qB]
  rfl
 refine qQ (i := 7) (N := some 12) (v := ?_) (a' := ?_) #[true, false, true, false, false, true, false, true, false, false, false, false, false] rfl rfl (qG HT_.out (by kernel_rfl)) (fun _ _ _ h => h) (Or.inl ⟨by rfl, ?_⟩) ?_ ?_; rotate_left
 ·intro w'
  go_simp; with_reducible rfl
 rotate_left
 ·simp only [Act.put, sA, sB, sC, qA, qB]
  rfl
 refine jg (i := 1) (N := some 6) (v := ?_) (a' := ?_) #[true, true, true, false, false, true, false, true, false, false, false, false, false] rfl rfl (zp HT_.out HW_.out (by kernel_rfl)) (fun _ _ _ h => h) (Or.inl ⟨by rfl, ?_⟩) hHeld ?_ ?_; rotate_left
 ·rintro w' ⟨s0, s1, s2, s3⟩
  go_simp; with_reducible rfl
 rotate_left
 ·simp only [Act.put, sA, sB, sC, qA, qB]
  rfl
 refine jg (i := 3) (N := some 8) (v := ?_) (a' := ?_) #[true, true, true, true, false, true, false, true, false, false, false, false, false] rfl rfl (zp HT_.out HW_.out (by kernel_rfl)) (fun _ _ _ h => h) (Or.inl ⟨by rfl, ?_⟩) hHeld ?_ ?_; rotate_left
 ·rintro w' ⟨s0, s1, s2, s3⟩
  go_simp; with_reducible rfl
 rotate_left
 ·simp only [Act.put, sA, sB, sC, qA, qB]
  rfl
 refine jg (i := 6) (N := some 11) (v := ?_) (a' := ?_) #[true, true, true, true, false, true, true, true, false, false, false, false, false] rfl rfl (zp HT_.out HW_.out (by kernel_rfl)) (fun _ _ _ h => h) (Or.inl ⟨by rfl, ?_⟩) hHeld ?_ ?_; rotate_left
 ·rintro w' ⟨s0, s1, s2, s3⟩
  go_simp; with_reducible rfl
 rotate_left
 ·simp only [Act.put, sA, sB, sC, qA, qB]
  rfl
 refine jg (i := 8) (N := some 13) (v := ?_) (a' := ?_) #[true, true, true, true, false, true, true, true, true, false, false, false, false] rfl rfl (zp HT_.out HW_.out (by kernel_rfl)) (fun _ _ _ h => h) (Or.inl ⟨by rfl, ?_⟩) hHeld ?_ ?_; rotate_left
 ·rintro w' ⟨s0, s1, s2, s3⟩
  go_simp; with_reducible rfl
 rotate_left
 ·simp only [Act.put, sA, sB, sC, qA, qB]
  rfl
 refine one_ (i := 4) (N := some 9) (fl 9 13) rfl rfl (jd HT_.out (by kernel_rfl)) (by decide) (fun K hK => ?_); refine xe Try.func75 (by kernel_rfl) rfl #[.int .i64 a0_0, .int .i64 a1_0] (by rfl) rfl rfl ga_ ?_; (with_reducible refine (cmp_Compare_int.calls a0_0 a1_0 t497 _ A3.out).mono ?_); rintro e w' ⟨rfl, ⟨nd, rfl⟩⟩; refine ⟨_, rfl, ?_⟩; refine hK.out _ _ ⟨(qc BK495.out 0).trans rfl, (qc BK495.out 1).trans rfl, (qc BK496.out 0).trans rfl, (qc BK496.out 1).trans rfl⟩ (fun hHeld => ?_); clear hK K; refine je (a' := ?_) ?_ ?_; rotate_left
 ·show Act.put _ (some 9) _ = _
  simp only [Act.put, sA, sB, sC, qA, qB]; rfl
 refine one_ (i := 9) (N := some 14) (fl 10 13) rfl rfl (jd HT_.out (by kernel_rfl)) (by decide) (fun K hK => ?_); refine xe Try.func75 (by kernel_rfl) rfl #[.int .i64 a0_1, .int .i64 a1_1] (by rfl) rfl rfl ga_ ?_; (with_reducible refine (cmp_Compare_int.calls a0_1 a1_1 t498 _ A4.out).mono ?_); rintro e w' ⟨rfl, ⟨nd, rfl⟩⟩; refine ⟨_, rfl, ?_⟩; refine hK.out _ _ ⟨(qc BK495.out 0).trans rfl, (qc BK495.out 1).trans rfl, (qc BK496.out 0).trans rfl, (qc BK496.out 1).trans rfl⟩ (fun hHeld => ?_); clear hK K; refine je (a' := ?_) ?_ ?_; rotate_left
 ·show Act.put _ (some 14) _ = _
  simp only [Act.put, sA, sB, sC, qA, qB]; rfl
 refine one_ (i := 10) (N := some 15) (fl 11 13) rfl rfl (jd HT_.out (by kernel_rfl)) (by decide) (fun K hK => ?_); (refine Kd.jO (Kd.int .i64) _ 3 ?hg (N := 15) ?hd (xs := ([t497, t498] : List Int)) (inner := [.int .i64 t497, .int .i64 t498]) (ok := fun _ => True) (okp := fun _ => True) ?hr ?hp (fun _ hk => hk) trivial (Below.refl _ _) (Nat.le_refl _) (by simp) ?_; (case hd => rfl); (case hg => rfl); (case hr => first | (go_simp; done) | (go_simp; rfl)); (case hp => exact (Reps.one (show Kd.M (Kd.int .i64) _ _ _ t497 [.int .i64 t497] from rfl) (Reps.one (show Kd.M (Kd.int .i64) _ _ _ t498 [.int .i64 t498] from rfl) (Reps.none _ _))))); intro v500 w9 ho10 hb hg_ hnew_; clear hg_ hnew_; (first | rw [← Ny499.out] at ho10 | (simp only [Int.reduceToNat] at ho10; rw [← Ny499.out] at ho10)); have HO501 := qa.mk (Kd.zK ho10 (qn (hbg_))); replace BK495 := bb_ BK495 hb; replace BK496 := bb_ BK496 hb; replace HB := qa.mk (qh (hbg_) hb); clear hb ho10; obtain ⟨Ao11, co11, eo11⟩ := Kd.zO HO501.out; (first | subst eo11 | (injection eo11 with f1_ f2_ f3_; have f4_ := f1_.symm; have f5_ := f3_.symm; clear f1_ f2_ f3_; subst f4_; subst f5_)); refine hK.out _ _ ⟨(qc BK495.out 0).trans rfl, (qc BK495.out 1).trans rfl, (qc BK496.out 0).trans rfl, (qc BK496.out 1).trans rfl⟩ (fun hHeld => ?_); clear hK K; refine je (a' := ?_) ?_ ?_; rotate_left
 ·show Act.put _ (some 15) _ = _
  simp only [Act.put, sA, sB, sC, qA, qB]; rfl
 refine one_ (i := 11) (N := some 16) (fl 12 13) rfl rfl (jd HT_.out (by kernel_rfl)) (by decide) (fun K hK => ?_); refine xe Try.func74 (by kernel_rfl) rfl #[.slice Ao11 y499.length co11] (by rfl) rfl rfl ga_ ?_; (with_reducible refine (zw.calls k _ _ y499 t502 _ ?side1 ?side2 A5.out).mono ?_); (case side1 => repeat (first | exact (Kd.qV HO501.out).2.2 | (with_reducible refine Kd.qZ ?_ _) | (with_reducible refine Kd.qY ?_ _) | (with_reducible refine Kd.zi ?_))); (case side2 => exact (Kd.qV HO501.out).2.1); rintro e w' ⟨rfl, ⟨nd, rfl⟩⟩; refine ⟨_, rfl, ?_⟩; refine hK.out _ _ ⟨(qc BK495.out 0).trans rfl, (qc BK495.out 1).trans rfl, (qc BK496.out 0).trans rfl, (qc BK496.out 1).trans rfl⟩ (fun hHeld => ?_); clear hK K; refine je (a' := ?_) ?_ ?_; rotate_left
 ·show Act.put _ (some 16) _ = _
  simp only [Act.put, sA, sB, sC, qA, qB]; rfl
 refine qQ (i := 12) (N := some 4) (v := ?_) (a' := ?_) (fl 13 13) rfl rfl (qG HT_.out (by kernel_rfl)) (fun _ _ _ h => h) (Or.inl ⟨by rfl, ?_⟩) ?_ ?_; rotate_left
 ·intro w'
  go_simp; with_reducible rfl
 rotate_left
 ·simp only [Act.put, sA, sB, sC, qA, qB]
  rfl
 refine done_ (xg HT_.out (by kernel_rfl)) ?_; (try go_wp2); go_ret; exact ⟨by first | rfl | (simp [qw, qv] <;> rfl) | (simp [*, qw, qv] <;> rfl), hbg_⟩
set_option maxHeartbeats 8000000 in
set_option maxRecDepth 100000 in
theorem zv.callsD (k : Nat) (a0_0 : Int) (a0_1 : Int) (a1_0 : Int) (a1_1 : Int) (r : Int) (w : World) (h : zv.f k a0_0 a0_1 a1_0 a1_1 = some r) :
  Calls Try.prog 67 #[.agg #[.int .i64 a0_0, .int .i64 a0_1], .agg #[.int .i64 a1_0, .int .i64 a1_1]] w fun e w' => e = .returned (.int .i64 r) ∧ xl w.heap.size w w' := by
 have hu36 := Try.underlying36; have HB := qa.mk (xl.refl w.heap.size w); (have H : ((cmp_Compare_int.f a0_0 a1_0).bind fun t497 => ((cmp_Compare_int.f a0_1 a1_1).bind fun t498 => ((zw.f k (([t497, t498] : List Int))).bind fun t502 => (some t502)))) = some r := h); clear h; replace H := Option.bind_eq_some_iff.mp H; obtain ⟨t497, A30, H⟩ := H; (try dsimp -simprocs only at H); have A3 := qa.mk A30; clear A30; replace H := Option.bind_eq_some_iff.mp H; obtain ⟨t498, A40, H⟩ := H; (try dsimp -simprocs only at H); have A4 := qa.mk A40; clear A40; obtain ⟨y499, hy499⟩ : ∃ y_ : List Int, y_ = (([t497, t498] : List Int)) := ⟨_, rfl⟩; (replace H : ((zw.f k y499).bind fun t502 => (some t502)) = some r := by first | (rw [hy499]; with_reducible exact H) | (have H2_ := (Option.bind_some _ _).symm.trans H; rw [hy499]; with_reducible exact H2_) | (have H2_ := (Option.bind_some _ _).symm.trans H; with_reducible exact H2_) | with_reducible exact H | (rw [hy499]; exact H) | exact H); have Ny499 := qa.mk hy499; clear hy499; replace H := Option.bind_eq_some_iff.mp H; obtain ⟨t502, A50, H⟩ := H; replace H : (some t502) = some r := H; have A5 := qa.mk A50; clear A50; obtain rfl := Option.some.inj H; go_enter Try.func67, Try.ntmps67
 try go_wp2_with (first | ((with_reducible refine qN (N := 2) rfl ?_); refine box_eventD ?hg (N := 2) ?hd (cs := #[.int .i64 a0_0, .int .i64 a0_1]) (t := 36) ?hr ?_; (case hd => rfl); (case hg => rfl); (case hr => first | (go_simp; done) | (go_simp; rfl)); intro gb495 hg w6 hbox hb; have BK495 := qa.mk (hbox); have GW495 := qa.mk ((by rw [hg]; exact (belowD_size (by repeat (first | (with_reducible first | exact HB.out | apply jK | apply jV | apply jQ) | exact HB.out))) : w.heap.size ≤ gb495)); have GE495 := qa.mk ((by rw [hg]; exact (belowD_size (by repeat (first | (with_reducible first | exact HB.out | apply jK | apply jV | apply jQ) | exact HB.out))) : w.heap.size ≤ gb495)); replace HB := qa.mk (belowD_step (by repeat (first | (with_reducible first | exact HB.out | apply jK | apply jV | apply jQ) | exact HB.out)) hb); clear hb hbox hg) | ((with_reducible refine qN (N := 3) rfl ?_); refine box_eventD ?hg (N := 3) ?hd (cs := #[.int .i64 a1_0, .int .i64 a1_1]) (t := 36) ?hr ?_; (case hd => rfl); (case hg => rfl); (case hr => first | (go_simp; done) | (go_simp; rfl)); intro gb496 hg w7 hbox hb; have BK496 := qa.mk (hbox); have GW496 := qa.mk ((by rw [hg]; exact (belowD_size (by repeat (first | (with_reducible first | exact HB.out | apply jK | apply jV | apply jQ | refine qd ?_ GE495.out) | exact HB.out))) : w.heap.size ≤ gb496)); have GE496 := qa.mk ((by rw [hg]; exact (belowD_size (by repeat (first | (with_reducible first | exact HB.out | apply jK | apply jV | apply jQ | refine qd ?_ GE495.out) | exact HB.out))) : w.heap.size ≤ gb496)); replace HB := qa.mk (belowD_step (by repeat (first | (with_reducible first | exact HB.out | apply jK | apply jV | apply jQ | refine qd ?_ GE495.out) | exact HB.out)) hb); have NB495_496 := qa.mk ((by rw [hg]; exact Nat.ne_of_lt (qR (bk_ BK495.out)) : gb495 ≠ gb496)); have NB496_495 := qa.mk ((by rw [hg]; exact Nat.ne_of_gt (qR (bk_ BK495.out)) : gb496 ≠ gb495)); replace BK495 := qa.mk (jf (g := gb495) (o := .cells #[.int .i64 a0_0, .int .i64 a0_1] 36 (0, 0)) (bk_ BK495.out) hb.b); clear hb hbox hg))
 replace BK495 := qa.mk (qx BK495.out); replace BK496 := qa.mk (qx BK496.out); replace HB := qa.mk (jQ HB.out); (refine xr (n := 13) (S := fun w' => w'.cell? ⟨gb495, 0, none⟩ = some (.int .i64 a0_0) ∧ w'.cell? ⟨gb495, 1, none⟩ = some (.int .i64 a0_1) ∧ w'.cell? ⟨gb496, 0, none⟩ = some (.int .i64 a1_0) ∧ w'.cell? ⟨gb496, 1, none⟩ = some (.int .i64 a1_1)) (ds := []) (fl 0 13) (by kernel_rfl) rfl rfl ⟨(qc BK495.out 0).trans rfl, (qc BK495.out 1).trans rfl, (qc BK496.out 0).trans rfl, (qc BK496.out 1).trans rfl⟩ (fun hHeld => ?_); refine jM zv.tab1 zv.bits1 (fun HT_ HW_ => ?_)); generalize w7.drew = w8 at BK495 BK496 HB hHeld ⊢; refine qQ (i := 0) (N := some 5) (v := ?_) (a' := ?_) (fl 1 13) rfl rfl (qG HT_.out (by kernel_rfl)) (fun _ _ _ h => h) (Or.inl ⟨by rfl, ?_⟩) ?_ ?_; rotate_left
 ·intro w'
  go_simp; with_reducible rfl
 rotate_left
 ·simp only [Act.put, sA, sB, sC, qA, qB]
  rfl
 refine qQ (i := 2) (N := some 7) (v := ?_) (a' := ?_) #[true, false, true, false, false, false, false, false, false, false, false, false, false] rfl rfl (qG HT_.out (by kernel_rfl)) (fun _ _ _ h => h) (Or.inl ⟨by rfl, ?_⟩) ?_ ?_; rotate_left
 ·intro w'
  go_simp; with_reducible rfl
 rotate_left
 ·simp only [Act.put, sA, sB, sC, qA, qB]
  rfl
 refine qQ (i := 5) (N := some 10) (v := ?_) (a' := ?_) #[true, false, true, false, false, true, false, false, false, false, false, false, false] rfl rfl (qG HT_.out (by kernel_rfl)) (fun _ _ _ h => h) (Or.inl ⟨by rfl, ?_⟩) ?_ ?_; rotate_left
 ·intro w'
  go_simp; with_reducible rfl
 rotate_left
 ·simp only [Act.put, sA, sB, sC, qA, qB]
  rfl
 refine qQ (i := 7) (N := some 12) (v := ?_) (a' := ?_) #[true, false, true, false, false, true, false, true, false, false, false, false, false] rfl rfl (qG HT_.out (by kernel_rfl)) (fun _ _ _ h => h) (Or.inl ⟨by rfl, ?_⟩) ?_ ?_; rotate_left
 ·intro w'
  go_simp; with_reducible rfl
 rotate_left
 ·simp only [Act.put, sA, sB, sC, qA, qB]
  rfl
 refine jg (i := 1) (N := some 6) (v := ?_) (a' := ?_) #[true, true, true, false, false, true, false, true, false, false, false, false, false] rfl rfl (zp HT_.out HW_.out (by kernel_rfl)) (fun _ _ _ h => h) (Or.inl ⟨by rfl, ?_⟩) hHeld ?_ ?_; rotate_left
 ·rintro w' ⟨s0, s1, s2, s3⟩
  go_simp; with_reducible rfl
 rotate_left
 ·simp only [Act.put, sA, sB, sC, qA, qB]
  rfl
 refine jg (i := 3) (N := some 8) (v := ?_) (a' := ?_) #[true, true, true, true, false, true, false, true, false, false, false, false, false] rfl rfl (zp HT_.out HW_.out (by kernel_rfl)) (fun _ _ _ h => h) (Or.inl ⟨by rfl, ?_⟩) hHeld ?_ ?_; rotate_left
 ·rintro w' ⟨s0, s1, s2, s3⟩
  go_simp; with_reducible rfl
 rotate_left
 ·simp only [Act.put, sA, sB, sC, qA, qB]
  rfl
 refine jg (i := 6) (N := some 11) (v := ?_) (a' := ?_) #[true, true, true, true, false, true, true, true, false, false, false, false, false] rfl rfl (zp HT_.out HW_.out (by kernel_rfl)) (fun _ _ _ h => h) (Or.inl ⟨by rfl, ?_⟩) hHeld ?_ ?_; rotate_left
 ·rintro w' ⟨s0, s1, s2, s3⟩
  go_simp; with_reducible rfl
 rotate_left
 ·simp only [Act.put, sA, sB, sC, qA, qB]
  rfl
 refine jg (i := 8) (N := some 13) (v := ?_) (a' := ?_) #[true, true, true, true, false, true, true, true, true, false, false, false, false] rfl rfl (zp HT_.out HW_.out (by kernel_rfl)) (fun _ _ _ h => h) (Or.inl ⟨by rfl, ?_⟩) hHeld ?_ ?_; rotate_left
 ·rintro w' ⟨s0, s1, s2, s3⟩
  go_simp; with_reducible rfl
 rotate_left
 ·simp only [Act.put, sA, sB, sC, qA, qB]
  rfl
 refine one_ (i := 4) (N := some 9) (fl 9 13) rfl rfl (jd HT_.out (by kernel_rfl)) (by decide) (fun K hK => ?_); refine xe Try.func75 (by kernel_rfl) rfl #[.int .i64 a0_0, .int .i64 a1_0] (by rfl) rfl rfl ga_ ?_; (with_reducible refine (cmp_Compare_int.calls a0_0 a1_0 t497 _ A3.out).mono ?_); rintro e w' ⟨rfl, ⟨nd, rfl⟩⟩; refine ⟨_, rfl, ?_⟩; refine hK.out _ _ ⟨(qc BK495.out 0).trans rfl, (qc BK495.out 1).trans rfl, (qc BK496.out 0).trans rfl, (qc BK496.out 1).trans rfl⟩ (fun hHeld => ?_); clear hK K; refine je (a' := ?_) ?_ ?_; rotate_left
 ·show Act.put _ (some 9) _ = _
  simp only [Act.put, sA, sB, sC, qA, qB]; rfl
 refine one_ (i := 9) (N := some 14) (fl 10 13) rfl rfl (jd HT_.out (by kernel_rfl)) (by decide) (fun K hK => ?_); refine xe Try.func75 (by kernel_rfl) rfl #[.int .i64 a0_1, .int .i64 a1_1] (by rfl) rfl rfl ga_ ?_; (with_reducible refine (cmp_Compare_int.calls a0_1 a1_1 t498 _ A4.out).mono ?_); rintro e w' ⟨rfl, ⟨nd, rfl⟩⟩; refine ⟨_, rfl, ?_⟩; refine hK.out _ _ ⟨(qc BK495.out 0).trans rfl, (qc BK495.out 1).trans rfl, (qc BK496.out 0).trans rfl, (qc BK496.out 1).trans rfl⟩ (fun hHeld => ?_); clear hK K; refine je (a' := ?_) ?_ ?_; rotate_left
 ·show Act.put _ (some 14) _ = _
  simp only [Act.put, sA, sB, sC, qA, qB]; rfl
 refine one_ (i := 10) (N := some 15) (fl 11 13) rfl rfl (jd HT_.out (by kernel_rfl)) (by decide) (fun K hK => ?_); refine lit2D ?hg (N := 15) ?hd (x := t497) (y := t498) (e := 3) ?hr ?_; (case hd => rfl); (case hg => rfl); (case hr => first | (go_simp; done) | (go_simp; rfl)); intro v500 w9 ho10 hb hg_ hnew_; clear hg_ hnew_; (first | rw [← Ny499.out] at ho10 | (simp only [Int.reduceToNat] at ho10; rw [← Ny499.out] at ho10)); have HO501 := qa.mk (Kd.zK ho10 (belowD_size (by repeat (first | (with_reducible first | exact HB.out | apply jK | apply jV | apply jQ | refine qd ?_ GE495.out | refine qd ?_ GE496.out) | exact HB.out)))); replace BK495 := qa.mk (jf (g := gb495) (o := .cells #[.int .i64 a0_0, .int .i64 a0_1] 36 (0, 0)) (bk_ BK495.out) hb.b); replace BK496 := qa.mk (jf (g := gb496) (o := .cells #[.int .i64 a1_0, .int .i64 a1_1] 36 (0, 0)) (bk_ BK496.out) hb.b); replace HB := qa.mk (belowD_step (by repeat (first | (with_reducible first | exact HB.out | apply jK | apply jV | apply jQ | refine qd ?_ GE495.out | refine qd ?_ GE496.out) | exact HB.out)) hb); clear hb ho10; obtain ⟨Ao11, co11, eo11⟩ := Kd.zO HO501.out; (first | subst eo11 | (injection eo11 with f1_ f2_ f3_; have f4_ := f1_.symm; have f5_ := f3_.symm; clear f1_ f2_ f3_; subst f4_; subst f5_)); refine hK.out _ _ ⟨(qc BK495.out 0).trans rfl, (qc BK495.out 1).trans rfl, (qc BK496.out 0).trans rfl, (qc BK496.out 1).trans rfl⟩ (fun hHeld => ?_); clear hK K; refine je (a' := ?_) ?_ ?_; rotate_left
 ·show Act.put _ (some 15) _ = _
  simp only [Act.put, sA, sB, sC, qA, qB]; rfl
 refine one_ (i := 11) (N := some 16) (fl 12 13) rfl rfl (jd HT_.out (by kernel_rfl)) (by decide) (fun K hK => ?_); refine xe Try.func74 (by kernel_rfl) rfl #[.slice Ao11 y499.length co11] (by rfl) rfl rfl ga_ ?_; (with_reducible refine (zw.calls k _ _ y499 t502 _ ?side1 ?side2 A5.out).mono ?_); (case side1 => repeat (first | exact (Kd.qV HO501.out).2.2 | (with_reducible refine Kd.qZ ?_ _) | (with_reducible refine Kd.qY ?_ _) | (with_reducible refine Kd.zi ?_))); (case side2 => exact (Kd.qV HO501.out).2.1); rintro e w' ⟨rfl, ⟨nd, rfl⟩⟩; refine ⟨_, rfl, ?_⟩; refine hK.out _ _ ⟨(qc BK495.out 0).trans rfl, (qc BK495.out 1).trans rfl, (qc BK496.out 0).trans rfl, (qc BK496.out 1).trans rfl⟩ (fun hHeld => ?_); clear hK K; refine je (a' := ?_) ?_ ?_; rotate_left
 ·show Act.put _ (some 16) _ = _
  simp only [Act.put, sA, sB, sC, qA, qB]; rfl
 refine qQ (i := 12) (N := some 4) (v := ?_) (a' := ?_) (fl 13 13) rfl rfl (qG HT_.out (by kernel_rfl)) (fun _ _ _ h => h) (Or.inl ⟨by rfl, ?_⟩) ?_ ?_; rotate_left
 ·intro w'
  go_simp; with_reducible rfl
 rotate_left
 ·simp only [Act.put, sA, sB, sC, qA, qB]
  rfl
 refine done_ (xg HT_.out (by kernel_rfl)) ?_; (try go_wp2); go_ret; exact ⟨by first | rfl | (simp [qw, qv] <;> rfl) | (simp [*, qw, qv] <;> rfl), by repeat (first | (with_reducible first | exact HB.out | apply jK | apply jV | apply jQ | refine qd ?_ GE495.out | refine qd ?_ GE496.out) | exact HB.out)⟩
/-- How two pegs compare. -/
def cmpP (x y : S36) : Int := if x.f0 < y.f0 then -1 else if y.f0 < x.f0 then 1 else if x.f1 < y.f1 then -1 else if y.f1 < x.f1 then 1 else 0
theorem cmpP_eq (x y : S36) : zv.f 4 x.f0 x.f1 y.f0 y.f1 = some (cmpP x y) := by
 unfold zv.f cmp_Compare_int.f zw.f cmpP; by_cases h1 : x.f0 < y.f0
 ·by_cases h3 : x.f1 < y.f1
  ·simp [h1, h3, zw.l0, cmp_isNaN_int.f, rd, wrap64]
  ·by_cases h4 : y.f1 < x.f1
   ·simp [h1, h3, h4, zw.l0, cmp_isNaN_int.f, rd, wrap64]
   ·simp [h1, h3, h4, zw.l0, cmp_isNaN_int.f, rd, wrap64]
 ·by_cases h2 : y.f0 < x.f0
  ·by_cases h3 : x.f1 < y.f1
   ·simp [h1, h2, h3, zw.l0, cmp_isNaN_int.f, rd, wrap64]
   ·by_cases h4 : y.f1 < x.f1
    ·simp [h1, h2, h3, h4, zw.l0, cmp_isNaN_int.f, rd, wrap64]
    ·simp [h1, h2, h3, h4, zw.l0, cmp_isNaN_int.f, rd, wrap64]
  ·by_cases h3 : x.f1 < y.f1
   ·simp [h1, h2, h3, zw.l0, cmp_isNaN_int.f, rd, wrap64]
   ·by_cases h4 : y.f1 < x.f1
    ·simp [h1, h2, h3, h4, zw.l0, cmp_isNaN_int.f, rd, wrap64]
    ·simp [h1, h2, h3, h4, zw.l0, cmp_isNaN_int.f, rd, wrap64]
/-- One peg comes ahead of the other one. -/
def ltP (x y : S36) : Bool := decide (x.f0 < y.f0 ∨ (x.f0 = y.f0 ∧ x.f1 < y.f1))
theorem ltOf_cmpP (x y : S36) : Go.Proofs.ltOf cmpP x y = ltP x y := by
 unfold Go.Proofs.ltOf cmpP ltP; by_cases h1 : x.f0 < y.f0
 ·simp [h1]
 ·by_cases h2 : y.f0 < x.f0
  ·have h5 : ¬ x.f0 = y.f0 := by omega
   simp [h1, h2, h5]
  ·have h5 : x.f0 = y.f0 := by omega
   by_cases h3 : x.f1 < y.f1
   ·simp [h5, h3]
   ·by_cases h4 : y.f1 < x.f1
    ·simp [h5, h3, h4]
    ·simp [h5, h3, h4]
theorem ltP_swo : Go.Sort.SWO (Go.Proofs.ltOf cmpP) where
 irrefl x := by rw [ltOf_cmpP]; unfold ltP; rw [decide_eq_false_iff_not]; omega
 trans x y z h1 h2 := by rw [ltOf_cmpP] at *; unfold ltP at *; rw [decide_eq_true_eq] at *; omega
 ntrans x y z h1 h2 := by rw [ltOf_cmpP] at *; unfold ltP at *; rw [decide_eq_false_iff_not] at *; omega
def insP (x : S36) : List S36 → List S36
 | [] => [x]
 | y :: l => if ltP y x = true then y :: insP x l else x :: y :: l
/-- Pegs in order. -/
def jY : List S36 → List S36
 | [] => []
 | x :: l => insP x (jY l)
theorem insP_perm (x : S36) (l : List S36) : (insP x l).Perm (x :: l) := by
 induction l with
 | nil => exact List.Perm.refl _
 | cons y l ih =>
  unfold insP; split
  ·exact (List.Perm.cons y ih).trans (List.Perm.swap x y l)
  ·exact List.Perm.refl _
theorem sortP_perm (l : List S36) : (jY l).Perm l := by
 induction l with
 | nil => exact List.Perm.refl _
 | cons x l ih => exact (insP_perm x (jY l)).trans (List.Perm.cons x ih)
theorem ltP_total {x y : S36} (h1 : ltP x y = false) (h2 : ltP y x = false) : x = y := by
 unfold ltP at h1 h2; rw [decide_eq_false_iff_not] at h1 h2; obtain ⟨x0, x1⟩ := x; obtain ⟨y0, y1⟩ := y; simp only at h1 h2; (have e0 : x0 = y0 := by omega); (have e1 : x1 = y1 := by omega); rw [e0, e1]
theorem ltP_le_trans {x y z : S36} (h1 : ltP y x = false) (h2 : ltP z y = false) : ltP z x = false := by
 unfold ltP at *; rw [decide_eq_false_iff_not] at *; omega
theorem insP_sorted (x : S36) (l : List S36) (h : l.Pairwise fun a b => ltP b a = false) : (insP x l).Pairwise fun a b => ltP b a = false := by
 induction l with
 | nil => exact List.pairwise_singleton _ _
 | cons y l ih =>
  rw [List.pairwise_cons] at h; unfold insP; split
  ·rename_i hc
   rw [List.pairwise_cons]; refine ⟨fun z hz => ?_, ih h.2⟩; rcases List.mem_cons.1 ((insP_perm x l).subset hz) with rfl | hz
   ·unfold ltP at *
    rw [decide_eq_true_eq] at hc; rw [decide_eq_false_iff_not]; omega
   ·exact h.1 z hz
  ·rename_i hc
   (have hc' : ltP y x = false := by simpa using hc); rw [List.pairwise_cons]; refine ⟨fun z hz => ?_, List.pairwise_cons.2 h⟩; rcases List.mem_cons.1 hz with rfl | hz
   ·exact hc'
   ·exact ltP_le_trans hc' (h.1 z hz)
theorem xE (l : List S36) : (jY l).Pairwise fun a b => ltP b a = false := by
 induction l with
 | nil => exact List.Pairwise.nil
 | cons x l ih => exact insP_sorted x _ ih
theorem sorted_one {a b : List S36} (hp : a.Perm b) (ha : a.Pairwise fun x y => ltP y x = false) (hb : b.Pairwise fun x y => ltP y x = false) : a = b := by
 induction a generalizing b with
 | nil => exact hp.nil_eq
 | cons x a ih =>
  cases b with
  | nil => exact absurd hp.length_eq (by simp)
  | cons y b =>
   rw [List.pairwise_cons] at ha hb
   have hxy : x = y := by
    have h1 : x ∈ y :: b := hp.subset (by simp); have h2 : y ∈ x :: a := hp.symm.subset (by simp); rcases List.mem_cons.1 h1 with h1 | h1
    ·exact h1
    ·rcases List.mem_cons.1 h2 with h2 | h2
     ·exact h2.symm
     ·exact ltP_total (hb.1 x h1 |> fun q => q) (ha.1 y h2) |> fun q => q
   subst hxy; rw [ih (List.Perm.cons_inv hp) ha.2 hb.2]
def zJ.f (l0 : List S36) : Option (List S36) := if l0.length < 4611686018427387904 then some (jY l0) else none
theorem zJ.calls (P0_ : Nat → Prop) (u9000_ : Value) (l0 : List S36) (r : List S36) (w0 w : World) (hB : Below w0.heap.size w0 w) (ho0 : Kd.R k36 36 w w0.heap.size P0_ u9000_ l0) (h : zJ.f l0 = some r) :
  Calls Try.prog 66 #[u9000_, .func (.func 67) #[] #[]] w fun e w' => e = .returned (.tuple #[]) ∧ Kd.R k36 36 w' w0.heap.size (fun k_ => (P0_ k_ ∨ w.heap.size ≤ k_)) u9000_ r ∧ Below w0.heap.size w0 w' ∧ Kept w w' (fun k_ => P0_ k_) := by
 have hbig : l0.length < 4611686018427387904 := by
  rcases Nat.lt_or_ge l0.length 4611686018427387904 with h0 | h0
  ·exact h0
  ·unfold zJ.f at h
   rw [if_neg (by omega)] at h; cases h
 obtain rfl : jY l0 = r := by
  unfold zJ.f at h; rw [if_pos hbig] at h; exact Option.some.inj h
 rcases Nat.eq_zero_or_pos l0.length with hz | hne
 ·obtain rfl : l0 = [] := List.length_eq_zero_iff.1 hz
  obtain ⟨A_, c_, rfl⟩ := Kd.zO ho0; have hcon := Go.Proofs.AnyF.slices_SortFunc_none Try.sortPegs A_ c_ (.func (.func 67) #[] #[]) w; change Calls Try.prog 66 _ _ _ at hcon; (refine hcon.mono fun e w' hq => ?_); obtain ⟨rfl, rfl⟩ := hq; exact ⟨rfl, Kd.qz ho0 (fun _ hk => .inl hk), hB, ⟨Nat.le_refl _, fun _ _ _ => rfl⟩⟩
 obtain ⟨g, cap, cur, rfl, hP, hg, hlt, hh, hl, hm, hs, hH⟩ := own_holdsK k36 36 xB rfl encP36_len kd_M36 ho0 hne; have eg : ∀ args w, (callFunc 67 args).run Try.prog w = .ok (.enter 67 args) w := enters_of Try.func67 (by kernel_rfl) rfl
 have hcmp : Go.Proofs.CmpLays Try.prog 67 #[] xB 2 cmpP g 0 l0.toArray.size w := fun m os dk _ x y =>
  (zv.callsD 4 x.f0 x.f1 y.f0 y.f1 (cmpP x y) _ (cmpP_eq x y)).mono fun e w' hq => ⟨hq.1, hq.2.grown⟩
 have hcon := Go.Proofs.AnyQ.slices_SortFunc Try.sortPegs 2 Try.isAgg36 Try.sizeOf36 xB encP36_len encP36_one cmpP ltP_swo 67 #[] g 0 cap l0.toArray w eg hcmp hH hlt (by simp only [List.size_toArray]; exact hbig); change Calls Try.prog 66 _ _ _ at hcon; rw [List.size_toArray] at hcon; (refine hcon.mono fun e w' hq => ?_); obtain ⟨rfl, d', m, os, ⟨hd, _, hperm⟩, hsort, rfl⟩ := hq; rw [List.size_toArray] at hd; obtain ⟨hR, hsz, hblk⟩ := sort_own k36 36 xB rfl encP36_len (fun w base ok x => jz w base ok x) (n := m) (os := os) hP hg hlt hh hl hm hs hd
 have hlist : d'.toList = jY l0 := by
  (have hds : d'.size = l0.length := by simpa using hd); (have e1 : (d'.extract 0 l0.length) = d' := by rw [← hds]; exact Array.extract_size); (have e2 : (l0.toArray.extract 0 l0.length) = l0.toArray := by rw [show l0.length = l0.toArray.size from rfl]; exact Array.extract_size); rw [e1, e2] at hperm; refine sorted_one (hperm.trans (sortP_perm l0).symm) ?_ (xE l0); rw [List.pairwise_iff_getElem]; intro i j hi hj hij; have h1 := hsort i j (Nat.zero_le _) hij (by rw [← hds]; simpa using hj); rw [ltOf_cmpP, getElem!_pos d' j (by simpa using hj), getElem!_pos d' i (by simpa using hi)] at h1; simpa using h1
 rw [hlist] at hR; (refine ⟨rfl, Kd.qz hR (fun _ hk => .inl hk), ⟨hB.os, hB.tape, hB.output, Nat.le_trans hB.size hsz, fun k hk => ?_⟩, ⟨hsz, fun k hk hn => hblk k hk (fun e_ => hn (e_ ▸ hP))⟩⟩); rw [hblk k (Nat.lt_of_lt_of_le hk hB.size) (by omega)]; exact hB.block k hk
def xc.f (l0 : List (S36)) : Option ((List (S36))) := (zz.f l0).bind fun t503 => ((zJ.f t503).bind fun t506 => (some t506))
set_option maxHeartbeats 8000000 in
set_option maxRecDepth 100000 in
theorem xc.calls (A0 : Option Addr) (c0 : Nat) (l0 : List (S36)) (r : List (S36)) (w : World) (hr0 : Kd.C k36 w A0 l0.length l0) (hc0 : l0.length ≤ c0) (h : xc.f l0 = some r) :
  Calls Try.prog 52 #[.slice A0 l0.length c0] w fun e w' => ∃ v0_ : Value, e = .returned (v0_) ∧ Kd.R k36 36 w' w.heap.size (fun _ => True) v0_ r ∧ Below w.heap.size w w' := by
 have HR0 := qa.mk hr0; have HC0 := qa.mk hc0; clear hr0 hc0; have HB := qa.mk (Below.refl w.heap.size w); (have H : ((zz.f l0).bind fun t503 => ((zJ.f t503).bind fun t506 => (some t506))) = some r := h); clear h; replace H := Option.bind_eq_some_iff.mp H; obtain ⟨t503, A20, H⟩ := H; (try dsimp -simprocs only at H); have A2 := qa.mk A20; clear A20; replace H := Option.bind_eq_some_iff.mp H; obtain ⟨t506, A30, H⟩ := H; replace H : (some t506) = some r := H; have A3 := qa.mk A30; clear A30; obtain rfl := Option.some.inj H; go_enter Try.func52, Try.ntmps52
 go_wp2_with (first | ((with_reducible refine qo (f := 45) rfl ?_); refine qP (some 5) rfl rfl Try.func45 (by kernel_rfl) rfl #[.slice A0 l0.length c0] rfl ga_ ?_; (with_reducible refine (zz.calls _ _ l0 t503 _ ?side1 ?side2 A2.out).mono ?_); (case side1 => repeat (first | exact HR0.out | (with_reducible refine Kd.qZ ?_ _) | (with_reducible refine Kd.qY ?_ _) | (with_reducible refine Kd.zi ?_))); (case side2 => exact HC0.out); rintro e w4 ⟨v504, rfl, ho0, hb⟩; refine ⟨_, rfl, ?_⟩; have HO505 := qa.mk (Kd.zK ho0 (qn (hb_))); replace HB := qa.mk (qh (hb_) hb); (try clear hb); (try clear ho0); obtain ⟨Ao5, co5, eo5⟩ := Kd.zO HO505.out; subst eo5) | ((with_reducible refine qo (f := 66) rfl ?_); refine qP (some 7) rfl rfl Try.func66 (by kernel_rfl) rfl #[.slice Ao5 t503.length co5, .func (.func 67) #[] #[]] rfl ga_ ?_; (with_reducible refine (zJ.calls (fun k_ => some k_ = (.slice Ao5 t503.length co5 : Value).ownBlock) (.slice Ao5 t503.length co5) t503  t506 w _ ?side1 ?side2 A3.out).mono ?_); (case side1 => repeat (first | (with_reducible first | exact HB.out | apply qk | apply qf | apply qj) | exact HB.out)); (case side2 => exact Kd.R_tight rfl HO505.out); rintro e w6 ⟨rfl, hy0, hb, hkp⟩; refine ⟨_, rfl, ?_⟩; replace HO505 := qa.mk (Kd.R_reok rfl hy0 (fun k_ e_ => HO505.out.1 k_ e_)); replace HB := qa.mk (hb); (try clear hb); (try clear hkp); (try clear hy0)))
 go_ret; exact ⟨_, by first | rfl | (simp [qw, qv] <;> rfl) | (simp [*, qw, qv] <;> rfl), by (with_reducible repeat (first | apply Kd.qF | apply Kd.qE | apply Kd.qJ)); exact HO505.out, hb_⟩
/-- A state of type 4 at block g of W; what its slices lead to came in by w0. -/
def IsS4 (w0 W : World) (g : Nat) (f0 : Bool) : Prop := W.heap[g]? = some (.cells #[.bool f0] 4 (0, 0)) ∧ w0.heap.size ≤ g
theorem IsS4.grown {w0 W : World} {g : Nat} {f0 : Bool} {W1 : World} {row : Option Nat} (h : IsS4 w0 W g f0) (hw : W.grownBy W1 row) (hne : some g ≠ row) : IsS4 w0 W1 g f0 := by
 obtain ⟨hb, hg⟩ := h; exact ⟨xj hb hw hne, hg⟩
theorem IsS4.fresh {w0 W : World} {g : Nat} {f0 : Bool} (h : IsS4 w0 W g f0) : ∀ k, W.heap.size ≤ k → k ≠ g := by
 obtain ⟨hb, hg⟩ := h; exact Kd.freshB hb
theorem IsS4.below {w0 W : World} {g : Nat} {f0 : Bool} {W1 : World} (h : IsS4 w0 W g f0) (hw : Below W.heap.size W W1) : IsS4 w0 W1 g f0 := h.grown (xF hw none) (by simp)
theorem IsS4.alloc {w0 W : World} {g : Nat} {f0 : Bool} (h : IsS4 w0 W g f0) (o : Obj) : IsS4 w0 (W.alloc o) g f0 := h.below (qk (Below.refl _ _) o)
theorem IsS4.drewN {w0 W : World} {g : Nat} {f0 : Bool} (h : IsS4 w0 W g f0) (m : Nat) : IsS4 w0 (W.drewN m) g f0 := h
theorem IsS4.drew {w0 W : World} {g : Nat} {f0 : Bool} (h : IsS4 w0 W g f0) : IsS4 w0 W.drew g f0 := h
theorem IsS4.at_ {w0 W : World} {g : Nat} {f0 : Bool} {w' : World} {m : Nat} (hq : W.drewN m = w') (h : IsS4 w0 W g f0) : IsS4 w0 w' g f0 := by subst hq; exact IsS4.drewN h m
theorem IsS4.apart {w0 W : World} {g : Nat} {f0 : Bool} {α : Type} {d : Kd α} {e : Nat} {base : Nat} {ok : Nat → Prop} {v : Value} {xs : List α} (h : IsS4 w0 W g f0) (ho : d.R e W base ok v xs) (ht : ∀ q, q ∈ e :: d.E → q ≠ 4) : d.R e W base (fun k => ok k ∧ k ≠ g) v xs := by
 obtain ⟨hb, hg⟩ := h; exact Kd.R_types ho hb ht
theorem IsS4.own_ne {w0 W : World} {g : Nat} {f0 : Bool} {α : Type} {d : Kd α} {e : Nat} {base : Nat} {ok : Nat → Prop} {v : Value} {xs : List α} (h : IsS4 w0 W g f0) (ho : d.R e W base ok v xs) (ht : e ≠ 4) : some g ≠ v.ownBlock := by
 obtain ⟨hb, hg⟩ := h; exact Kd.R_ne ho hb ht
theorem IsS4.lt {w0 W : World} {g : Nat} {f0 : Bool} (h : IsS4 w0 W g f0) : g < W.heap.size := by
 obtain ⟨hb, hg⟩ := h; exact qR hb
theorem IsS4.ge {w0 W : World} {g : Nat} {f0 : Bool} (h : IsS4 w0 W g f0) : w0.heap.size ≤ g := by
 obtain ⟨hb, hg⟩ := h; exact hg
theorem IsS4.ne_blk {w0 W : World} {g : Nat} {f0 : Bool} {a : Nat} {cs : Array Value} {t : TypeId} {fr : Nat × Nat} (h : IsS4 w0 W g f0) (hb2 : W.heap[a]? = some (.cells cs t fr)) (ht : t ≠ 4) : g ≠ a := by
 obtain ⟨hb, hg⟩ := h; rintro rfl; rw [hb] at hb2; injection hb2 with hb2; injection hb2 with _ ht2; exact ht ht2.symm
theorem IsS4.far {w0 W : World} {g : Nat} {f0 : Bool} {p : Addr} (h : IsS4 w0 W g f0) (hne : g ≠ p.block) (u : Value) : IsS4 w0 (W.setCell p u) g f0 := by
 obtain ⟨hb, hg⟩ := h; exact ⟨zN hb hne u, hg⟩
theorem cellS4_0 {W : World} {g : Nat} {f0 : Bool} (h : W.heap[g]? = some (.cells #[.bool f0] 4 (0, 0))) : W.cell? ⟨g, 0, none⟩ = some (.bool f0) := (qc h 0).trans rfl
theorem IsS4.cell_0 {w0 W : World} {g : Nat} {f0 : Bool} (h : IsS4 w0 W g f0) : W.cell? ⟨g, 0, none⟩ = some (.bool f0) := by
 obtain ⟨hb, hg⟩ := h; exact cellS4_0 hb
theorem IsS4.zm {w0 W : World} {g : Nat} {f0 : Bool} (h : IsS4 w0 W g f0) (x : Bool) : IsS4 w0 (W.setCell ⟨g, 0, none⟩ (.bool x)) g x := by
 obtain ⟨hb, hg⟩ := h; exact ⟨by simpa using blk_set hb 0 (.bool x), hg⟩
theorem IsS4.new (w0 W : World) (f0 : Bool) (hB : Below w0.heap.size w0 W) : IsS4 w0 (W.alloc (.cells #[.bool f0] 4)) W.heap.size f0 := ⟨by simpa using heap_alloc_new W _, hB.size⟩
def jZ.f (a0_0 : Int) (a0_1 : Int) (a1_0 : Int) (a1_1 : Int) (a2_0 : Int) (a2_1 : Int) (s3_0 : Bool) : Option (Bool) := if s3_0 = true then (some true) else ((ji.f a0_0 a0_1 a1_0 a1_1 a2_0 a2_1).bind fun t510 => (some (t510 == 0)))
set_option maxHeartbeats 8000000 in
set_option maxRecDepth 100000 in
theorem jZ.calls (a0_0 : Int) (a0_1 : Int) (a1_0 : Int) (a1_1 : Int) (a2_0 : Int) (a2_1 : Int) (g : Nat) (s3_0 : Bool) (r : Bool) (w0 w : World) (hI : IsS4 w0 w g s3_0) (hB : Below w0.heap.size w0 w) (h : jZ.f a0_0 a0_1 a1_0 a1_1 a2_0 a2_1 s3_0 = some r) :
  Calls Try.prog 53 #[.agg #[.int .i64 a0_0, .int .i64 a0_1], .agg #[.int .i64 a1_0, .int .i64 a1_1], .agg #[.int .i64 a2_0, .int .i64 a2_1], .pointer (some ⟨g, 0, none⟩)] w fun e w' => e = .returned (.tuple #[]) ∧ IsS4 w0 w' g r ∧ Below w0.heap.size w0 w' ∧ qe w w' g none := by
 have hu36 := Try.underlying36; have HI3 := qa.mk hI; have HK := qa.mk (qe.refl w g none); have HL := qa.mk hB.size; clear hI; have HW0 := qa.mk hB.size; have HB := qa.mk hB; clear hB; (have H : (if s3_0 = true then (some true) else ((ji.f a0_0 a0_1 a1_0 a1_1 a2_0 a2_1).bind fun t510 => (some (t510 == 0)))) = some r := h); clear h; by_cases c5 : s3_0 = true
 ·subst c5
  rw [if_pos rfl] at H; obtain rfl := Option.some.inj H; go_enter Try.func53, Try.ntmps53
  go_wp2_with (first | ((with_reducible refine qN (N := 4) rfl ?_); refine qO ?hg (N := 4) ?hd (cs := #[.int .i64 a0_0, .int .i64 a0_1]) (t := 36) ?hr ?_; (case hd => rfl); (case hg => rfl); (case hr => first | (go_simp; done) | (go_simp; rfl)); intro gb507 hg w6 hbox hb; replace HB := qa.mk (qh (by repeat (first | (with_reducible first | exact HB.out | apply qk | apply qf | apply qj | refine qd ?_ (IsS4.ge HI3.out)) | exact HB.out)) hb); have BK507 := qa.mk (hbox); have GW507 := qa.mk ((by rw [hg]; exact (zf (w := w) (g := g) (row := none) (by repeat (first | (with_reducible first | exact HK.out | apply qe.set_ | apply ql | apply qq | apply qm) | exact HK.out))) : w.heap.size ≤ gb507)); have GE507 := qa.mk ((Nat.le_trans HW0.out (by rw [hg]; exact (zf (w := w) (g := g) (row := none) (by repeat (first | (with_reducible first | exact HK.out | apply qe.set_ | apply ql | apply qq | apply qm) | exact HK.out))) : w.heap.size ≤ gb507) : w0.heap.size ≤ gb507)); replace HK := qa.mk (qe.trans (by repeat (first | (with_reducible first | exact HK.out | apply qe.set_ | apply ql | apply qq | apply qm) | exact HK.out)) (qe.of_below hb g none) (.inl rfl)); have NB3_507 := qa.mk ((by rw [hg]; exact Nat.ne_of_lt (IsS4.lt (show IsS4 w0 _ g true from by repeat (first | (with_reducible first | exact HI3.out | apply IsS4.alloc | apply IsS4.drewN | apply IsS4.drew | apply IsS4.zm) | exact HI3.out))) : g ≠ gb507)); have NB507_3 := qa.mk ((by rw [hg]; exact Nat.ne_of_gt (IsS4.lt (show IsS4 w0 _ g true from by repeat (first | (with_reducible first | exact HI3.out | apply IsS4.alloc | apply IsS4.drewN | apply IsS4.drew | apply IsS4.zm) | exact HI3.out))) : gb507 ≠ g)); replace HI3 := qa.mk (IsS4.below (by repeat (first | (with_reducible first | exact HI3.out | apply IsS4.alloc | apply IsS4.drewN | apply IsS4.drew | apply IsS4.zm) | exact HI3.out)) hb); clear hb hbox hg) | ((with_reducible refine qN (N := 5) rfl ?_); refine qO ?hg (N := 5) ?hd (cs := #[.int .i64 a1_0, .int .i64 a1_1]) (t := 36) ?hr ?_; (case hd => rfl); (case hg => rfl); (case hr => first | (go_simp; done) | (go_simp; rfl)); intro gb508 hg w7 hbox hb; replace HB := qa.mk (qh (by repeat (first | (with_reducible first | exact HB.out | apply qk | apply qf | apply qj | refine qd ?_ (IsS4.ge HI3.out) | refine qd ?_ GE507.out) | exact HB.out)) hb); have BK508 := qa.mk (hbox); have GW508 := qa.mk ((by rw [hg]; exact (zf (w := w) (g := g) (row := none) (by repeat (first | (with_reducible first | exact HK.out | apply qe.set_ | apply ql | apply qq | apply qm | refine qp ?_ GW507.out _) | exact HK.out))) : w.heap.size ≤ gb508)); have GE508 := qa.mk ((Nat.le_trans HW0.out (by rw [hg]; exact (zf (w := w) (g := g) (row := none) (by repeat (first | (with_reducible first | exact HK.out | apply qe.set_ | apply ql | apply qq | apply qm | refine qp ?_ GW507.out _) | exact HK.out))) : w.heap.size ≤ gb508) : w0.heap.size ≤ gb508)); replace HK := qa.mk (qe.trans (by repeat (first | (with_reducible first | exact HK.out | apply qe.set_ | apply ql | apply qq | apply qm | refine qp ?_ GW507.out _) | exact HK.out)) (qe.of_below hb g none) (.inl rfl)); have NB507_508 := qa.mk ((by rw [hg]; exact Nat.ne_of_lt (qR (bk_ BK507.out)) : gb507 ≠ gb508)); have NB508_507 := qa.mk ((by rw [hg]; exact Nat.ne_of_gt (qR (bk_ BK507.out)) : gb508 ≠ gb507)); replace BK507 := bb_ BK507 hb; have NB3_508 := qa.mk ((by rw [hg]; exact Nat.ne_of_lt (IsS4.lt (show IsS4 w0 _ g true from by repeat (first | (with_reducible first | exact HI3.out | apply IsS4.alloc | apply IsS4.drewN | apply IsS4.drew | apply IsS4.zm | refine IsS4.far ?_ NB3_507.out _) | exact HI3.out))) : g ≠ gb508)); have NB508_3 := qa.mk ((by rw [hg]; exact Nat.ne_of_gt (IsS4.lt (show IsS4 w0 _ g true from by repeat (first | (with_reducible first | exact HI3.out | apply IsS4.alloc | apply IsS4.drewN | apply IsS4.drew | apply IsS4.zm | refine IsS4.far ?_ NB3_507.out _) | exact HI3.out))) : gb508 ≠ g)); replace HI3 := qa.mk (IsS4.below (by repeat (first | (with_reducible first | exact HI3.out | apply IsS4.alloc | apply IsS4.drewN | apply IsS4.drew | apply IsS4.zm | refine IsS4.far ?_ NB3_507.out _) | exact HI3.out)) hb); clear hb hbox hg) | ((with_reducible refine qN (N := 6) rfl ?_); refine qO ?hg (N := 6) ?hd (cs := #[.int .i64 a2_0, .int .i64 a2_1]) (t := 36) ?hr ?_; (case hd => rfl); (case hg => rfl); (case hr => first | (go_simp; done) | (go_simp; rfl)); intro gb509 hg w8 hbox hb; replace HB := qa.mk (qh (by repeat (first | (with_reducible first | exact HB.out | apply qk | apply qf | apply qj | refine qd ?_ (IsS4.ge HI3.out) | refine qd ?_ GE507.out | refine qd ?_ GE508.out) | exact HB.out)) hb); have BK509 := qa.mk (hbox); have GW509 := qa.mk ((by rw [hg]; exact (zf (w := w) (g := g) (row := none) (by repeat (first | (with_reducible first | exact HK.out | apply qe.set_ | apply ql | apply qq | apply qm | refine qp ?_ GW507.out _ | refine qp ?_ GW508.out _) | exact HK.out))) : w.heap.size ≤ gb509)); have GE509 := qa.mk ((Nat.le_trans HW0.out (by rw [hg]; exact (zf (w := w) (g := g) (row := none) (by repeat (first | (with_reducible first | exact HK.out | apply qe.set_ | apply ql | apply qq | apply qm | refine qp ?_ GW507.out _ | refine qp ?_ GW508.out _) | exact HK.out))) : w.heap.size ≤ gb509) : w0.heap.size ≤ gb509)); replace HK := qa.mk (qe.trans (by repeat (first | (with_reducible first | exact HK.out | apply qe.set_ | apply ql | apply qq | apply qm | refine qp ?_ GW507.out _ | refine qp ?_ GW508.out _) | exact HK.out)) (qe.of_below hb g none) (.inl rfl)); have NB507_509 := qa.mk ((by rw [hg]; exact Nat.ne_of_lt (qR (bk_ BK507.out)) : gb507 ≠ gb509)); have NB509_507 := qa.mk ((by rw [hg]; exact Nat.ne_of_gt (qR (bk_ BK507.out)) : gb509 ≠ gb507)); replace BK507 := bb_ BK507 hb; have NB508_509 := qa.mk ((by rw [hg]; exact Nat.ne_of_lt (qR (bk_ BK508.out)) : gb508 ≠ gb509)); have NB509_508 := qa.mk ((by rw [hg]; exact Nat.ne_of_gt (qR (bk_ BK508.out)) : gb509 ≠ gb508)); replace BK508 := bb_ BK508 hb; have NB3_509 := qa.mk ((by rw [hg]; exact Nat.ne_of_lt (IsS4.lt (show IsS4 w0 _ g true from by repeat (first | (with_reducible first | exact HI3.out | apply IsS4.alloc | apply IsS4.drewN | apply IsS4.drew | apply IsS4.zm | refine IsS4.far ?_ NB3_507.out _ | refine IsS4.far ?_ NB3_508.out _) | exact HI3.out))) : g ≠ gb509)); have NB509_3 := qa.mk ((by rw [hg]; exact Nat.ne_of_gt (IsS4.lt (show IsS4 w0 _ g true from by repeat (first | (with_reducible first | exact HI3.out | apply IsS4.alloc | apply IsS4.drewN | apply IsS4.drew | apply IsS4.zm | refine IsS4.far ?_ NB3_507.out _ | refine IsS4.far ?_ NB3_508.out _) | exact HI3.out))) : gb509 ≠ g)); replace HI3 := qa.mk (IsS4.below (by repeat (first | (with_reducible first | exact HI3.out | apply IsS4.alloc | apply IsS4.drewN | apply IsS4.drew | apply IsS4.zm | refine IsS4.far ?_ NB3_507.out _ | refine IsS4.far ?_ NB3_508.out _) | exact HI3.out)) hb); clear hb hbox hg; obtain ⟨HGz9, hgz9⟩ := HI3.out; have hcz9_0 := cellS4_0 HGz9; have hfz9_0 := qg HGz9 0; clear HGz9 hgz9))
  first | go_end0 | ((try simp only [Exit.inBlock, Exit.then]); refine bodyPost_ret (results_none rfl _ _ _) rfl ?_)
  exact ⟨by first | rfl | (simp [qw, qv] <;> rfl) | (simp [*, qw, qv] <;> rfl), by repeat (first | (with_reducible first | exact HI3.out | apply IsS4.alloc | apply IsS4.drewN | apply IsS4.drew | apply IsS4.zm | refine IsS4.far ?_ NB3_507.out _ | refine IsS4.far ?_ NB3_508.out _ | refine IsS4.far ?_ NB3_509.out _) | exact HI3.out), by repeat (first | (with_reducible first | exact HB.out | apply qk | apply qf | apply qj | refine qd ?_ (IsS4.ge HI3.out) | refine qd ?_ GE507.out | refine qd ?_ GE508.out | refine qd ?_ GE509.out) | exact HB.out), by repeat (first | (with_reducible first | exact HK.out | apply qe.set_ | apply ql | apply qq | apply qm | refine qp ?_ GW507.out _ | refine qp ?_ GW508.out _ | refine qp ?_ GW509.out _) | exact HK.out)⟩
 ·replace c5 := Bool.eq_false_iff.mpr c5
  subst c5; rw [if_neg Bool.false_ne_true] at H; replace H := Option.bind_eq_some_iff.mp H; obtain ⟨t510, A100, H⟩ := H; replace H : (some (t510 == 0)) = some r := H; have A10 := qa.mk A100; clear A100; obtain rfl := Option.some.inj H; go_enter Try.func53, Try.ntmps53
  go_wp2_with (first | ((with_reducible refine qN (N := 4) rfl ?_); refine qO ?hg (N := 4) ?hd (cs := #[.int .i64 a0_0, .int .i64 a0_1]) (t := 36) ?hr ?_; (case hd => rfl); (case hg => rfl); (case hr => first | (go_simp; done) | (go_simp; rfl)); intro gb507 hg w11 hbox hb; replace HB := qa.mk (qh (by repeat (first | (with_reducible first | exact HB.out | apply qk | apply qf | apply qj | refine qd ?_ (IsS4.ge HI3.out)) | exact HB.out)) hb); have BK507 := qa.mk (hbox); have GW507 := qa.mk ((by rw [hg]; exact (zf (w := w) (g := g) (row := none) (by repeat (first | (with_reducible first | exact HK.out | apply qe.set_ | apply ql | apply qq | apply qm) | exact HK.out))) : w.heap.size ≤ gb507)); have GE507 := qa.mk ((Nat.le_trans HW0.out (by rw [hg]; exact (zf (w := w) (g := g) (row := none) (by repeat (first | (with_reducible first | exact HK.out | apply qe.set_ | apply ql | apply qq | apply qm) | exact HK.out))) : w.heap.size ≤ gb507) : w0.heap.size ≤ gb507)); replace HK := qa.mk (qe.trans (by repeat (first | (with_reducible first | exact HK.out | apply qe.set_ | apply ql | apply qq | apply qm) | exact HK.out)) (qe.of_below hb g none) (.inl rfl)); have NB3_507 := qa.mk ((by rw [hg]; exact Nat.ne_of_lt (IsS4.lt (show IsS4 w0 _ g false from by repeat (first | (with_reducible first | exact HI3.out | apply IsS4.alloc | apply IsS4.drewN | apply IsS4.drew | apply IsS4.zm) | exact HI3.out))) : g ≠ gb507)); have NB507_3 := qa.mk ((by rw [hg]; exact Nat.ne_of_gt (IsS4.lt (show IsS4 w0 _ g false from by repeat (first | (with_reducible first | exact HI3.out | apply IsS4.alloc | apply IsS4.drewN | apply IsS4.drew | apply IsS4.zm) | exact HI3.out))) : gb507 ≠ g)); replace HI3 := qa.mk (IsS4.below (by repeat (first | (with_reducible first | exact HI3.out | apply IsS4.alloc | apply IsS4.drewN | apply IsS4.drew | apply IsS4.zm) | exact HI3.out)) hb); clear hb hbox hg) | ((with_reducible refine qN (N := 5) rfl ?_); refine qO ?hg (N := 5) ?hd (cs := #[.int .i64 a1_0, .int .i64 a1_1]) (t := 36) ?hr ?_; (case hd => rfl); (case hg => rfl); (case hr => first | (go_simp; done) | (go_simp; rfl)); intro gb508 hg w12 hbox hb; replace HB := qa.mk (qh (by repeat (first | (with_reducible first | exact HB.out | apply qk | apply qf | apply qj | refine qd ?_ (IsS4.ge HI3.out) | refine qd ?_ GE507.out) | exact HB.out)) hb); have BK508 := qa.mk (hbox); have GW508 := qa.mk ((by rw [hg]; exact (zf (w := w) (g := g) (row := none) (by repeat (first | (with_reducible first | exact HK.out | apply qe.set_ | apply ql | apply qq | apply qm | refine qp ?_ GW507.out _) | exact HK.out))) : w.heap.size ≤ gb508)); have GE508 := qa.mk ((Nat.le_trans HW0.out (by rw [hg]; exact (zf (w := w) (g := g) (row := none) (by repeat (first | (with_reducible first | exact HK.out | apply qe.set_ | apply ql | apply qq | apply qm | refine qp ?_ GW507.out _) | exact HK.out))) : w.heap.size ≤ gb508) : w0.heap.size ≤ gb508)); replace HK := qa.mk (qe.trans (by repeat (first | (with_reducible first | exact HK.out | apply qe.set_ | apply ql | apply qq | apply qm | refine qp ?_ GW507.out _) | exact HK.out)) (qe.of_below hb g none) (.inl rfl)); have NB507_508 := qa.mk ((by rw [hg]; exact Nat.ne_of_lt (qR (bk_ BK507.out)) : gb507 ≠ gb508)); have NB508_507 := qa.mk ((by rw [hg]; exact Nat.ne_of_gt (qR (bk_ BK507.out)) : gb508 ≠ gb507)); replace BK507 := bb_ BK507 hb; have NB3_508 := qa.mk ((by rw [hg]; exact Nat.ne_of_lt (IsS4.lt (show IsS4 w0 _ g false from by repeat (first | (with_reducible first | exact HI3.out | apply IsS4.alloc | apply IsS4.drewN | apply IsS4.drew | apply IsS4.zm | refine IsS4.far ?_ NB3_507.out _) | exact HI3.out))) : g ≠ gb508)); have NB508_3 := qa.mk ((by rw [hg]; exact Nat.ne_of_gt (IsS4.lt (show IsS4 w0 _ g false from by repeat (first | (with_reducible first | exact HI3.out | apply IsS4.alloc | apply IsS4.drewN | apply IsS4.drew | apply IsS4.zm | refine IsS4.far ?_ NB3_507.out _) | exact HI3.out))) : gb508 ≠ g)); replace HI3 := qa.mk (IsS4.below (by repeat (first | (with_reducible first | exact HI3.out | apply IsS4.alloc | apply IsS4.drewN | apply IsS4.drew | apply IsS4.zm | refine IsS4.far ?_ NB3_507.out _) | exact HI3.out)) hb); clear hb hbox hg) | ((with_reducible refine qN (N := 6) rfl ?_); refine qO ?hg (N := 6) ?hd (cs := #[.int .i64 a2_0, .int .i64 a2_1]) (t := 36) ?hr ?_; (case hd => rfl); (case hg => rfl); (case hr => first | (go_simp; done) | (go_simp; rfl)); intro gb509 hg w13 hbox hb; replace HB := qa.mk (qh (by repeat (first | (with_reducible first | exact HB.out | apply qk | apply qf | apply qj | refine qd ?_ (IsS4.ge HI3.out) | refine qd ?_ GE507.out | refine qd ?_ GE508.out) | exact HB.out)) hb); have BK509 := qa.mk (hbox); have GW509 := qa.mk ((by rw [hg]; exact (zf (w := w) (g := g) (row := none) (by repeat (first | (with_reducible first | exact HK.out | apply qe.set_ | apply ql | apply qq | apply qm | refine qp ?_ GW507.out _ | refine qp ?_ GW508.out _) | exact HK.out))) : w.heap.size ≤ gb509)); have GE509 := qa.mk ((Nat.le_trans HW0.out (by rw [hg]; exact (zf (w := w) (g := g) (row := none) (by repeat (first | (with_reducible first | exact HK.out | apply qe.set_ | apply ql | apply qq | apply qm | refine qp ?_ GW507.out _ | refine qp ?_ GW508.out _) | exact HK.out))) : w.heap.size ≤ gb509) : w0.heap.size ≤ gb509)); replace HK := qa.mk (qe.trans (by repeat (first | (with_reducible first | exact HK.out | apply qe.set_ | apply ql | apply qq | apply qm | refine qp ?_ GW507.out _ | refine qp ?_ GW508.out _) | exact HK.out)) (qe.of_below hb g none) (.inl rfl)); have NB507_509 := qa.mk ((by rw [hg]; exact Nat.ne_of_lt (qR (bk_ BK507.out)) : gb507 ≠ gb509)); have NB509_507 := qa.mk ((by rw [hg]; exact Nat.ne_of_gt (qR (bk_ BK507.out)) : gb509 ≠ gb507)); replace BK507 := bb_ BK507 hb; have NB508_509 := qa.mk ((by rw [hg]; exact Nat.ne_of_lt (qR (bk_ BK508.out)) : gb508 ≠ gb509)); have NB509_508 := qa.mk ((by rw [hg]; exact Nat.ne_of_gt (qR (bk_ BK508.out)) : gb509 ≠ gb508)); replace BK508 := bb_ BK508 hb; have NB3_509 := qa.mk ((by rw [hg]; exact Nat.ne_of_lt (IsS4.lt (show IsS4 w0 _ g false from by repeat (first | (with_reducible first | exact HI3.out | apply IsS4.alloc | apply IsS4.drewN | apply IsS4.drew | apply IsS4.zm | refine IsS4.far ?_ NB3_507.out _ | refine IsS4.far ?_ NB3_508.out _) | exact HI3.out))) : g ≠ gb509)); have NB509_3 := qa.mk ((by rw [hg]; exact Nat.ne_of_gt (IsS4.lt (show IsS4 w0 _ g false from by repeat (first | (with_reducible first | exact HI3.out | apply IsS4.alloc | apply IsS4.drewN | apply IsS4.drew | apply IsS4.zm | refine IsS4.far ?_ NB3_507.out _ | refine IsS4.far ?_ NB3_508.out _) | exact HI3.out))) : gb509 ≠ g)); replace HI3 := qa.mk (IsS4.below (by repeat (first | (with_reducible first | exact HI3.out | apply IsS4.alloc | apply IsS4.drewN | apply IsS4.drew | apply IsS4.zm | refine IsS4.far ?_ NB3_507.out _ | refine IsS4.far ?_ NB3_508.out _) | exact HI3.out)) hb); clear hb hbox hg; obtain ⟨HGz14, hgz14⟩ := HI3.out; have hcz14_0 := cellS4_0 HGz14; have hfz14_0 := qg HGz14 0; clear HGz14 hgz14; have hnb15 := NB507_508.out; have hnc15 := NB508_507.out; have hnb16 := NB507_509.out; have hnc16 := NB509_507.out; have hnb17 := NB507_3.out; have hnc17 := NB3_507.out; have hcz18_0 : w13.cell? ⟨gb507, 0, none⟩ = some (.int .i64 a0_0) := (qc BK507.out 0).trans rfl; have hcz18_1 : w13.cell? ⟨gb507, 1, none⟩ = some (.int .i64 a0_1) := (qc BK507.out 1).trans rfl; have hfz18_0 := qg BK507.out 0; have hfz18_1 := qg BK507.out 1; have hnb19 := NB508_509.out; have hnc19 := NB509_508.out; have hnb20 := NB508_3.out; have hnc20 := NB3_508.out; have hcz21_0 : w13.cell? ⟨gb508, 0, none⟩ = some (.int .i64 a1_0) := (qc BK508.out 0).trans rfl; have hcz21_1 : w13.cell? ⟨gb508, 1, none⟩ = some (.int .i64 a1_1) := (qc BK508.out 1).trans rfl; have hfz21_0 := qg BK508.out 0; have hfz21_1 := qg BK508.out 1; have hnb22 := NB509_3.out; have hnc22 := NB3_509.out; have hcz23_0 : w13.cell? ⟨gb509, 0, none⟩ = some (.int .i64 a2_0) := (qc BK509.out 0).trans rfl; have hcz23_1 : w13.cell? ⟨gb509, 1, none⟩ = some (.int .i64 a2_1) := (qc BK509.out 1).trans rfl; have hfz23_0 := qg BK509.out 0; have hfz23_1 := qg BK509.out 1) | (go_at_call 40; (with_reducible refine (ji.calls a0_0 a0_1 a1_0 a1_1 a2_0 a2_1 t510 _ A10.out).mono ?_); rintro e w24 ⟨rfl, hb⟩; replace BK507 := bb_ BK507 hb; replace BK508 := bb_ BK508 hb; replace BK509 := bb_ BK509 hb; replace HK := qa.mk (qe.trans (by repeat (first | (with_reducible first | exact HK.out | apply qe.set_ | apply ql | apply qq | apply qm | refine qp ?_ GW507.out _ | refine qp ?_ GW508.out _ | refine qp ?_ GW509.out _) | exact HK.out)) (qe.of_below hb g none) (.inl rfl)); replace HB := qa.mk (qh (by repeat (first | (with_reducible first | exact HB.out | apply qk | apply qf | apply qj | refine qd ?_ (IsS4.ge HI3.out) | refine qd ?_ GE507.out | refine qd ?_ GE508.out | refine qd ?_ GE509.out) | exact HB.out)) hb); replace HI3 := qa.mk (IsS4.below (by repeat (first | (with_reducible first | exact HI3.out | apply IsS4.alloc | apply IsS4.drewN | apply IsS4.drew | apply IsS4.zm | refine IsS4.far ?_ NB3_507.out _ | refine IsS4.far ?_ NB3_508.out _ | refine IsS4.far ?_ NB3_509.out _) | exact HI3.out)) hb); (try clear hb); obtain ⟨HGz25, hgz25⟩ := HI3.out; have hcz25_0 := cellS4_0 HGz25; have hfz25_0 := qg HGz25 0; clear HGz25 hgz25))
  first | go_end0 | ((try simp only [Exit.inBlock, Exit.then]); refine bodyPost_ret (results_none rfl _ _ _) rfl ?_)
  exact ⟨by first | rfl | (simp [qw, qv] <;> rfl) | (simp [*, qw, qv] <;> rfl), by repeat (first | (with_reducible first | exact HI3.out | apply IsS4.alloc | apply IsS4.drewN | apply IsS4.drew | apply IsS4.zm | refine IsS4.far ?_ NB3_507.out _ | refine IsS4.far ?_ NB3_508.out _ | refine IsS4.far ?_ NB3_509.out _) | exact HI3.out), by repeat (first | (with_reducible first | exact HB.out | apply qk | apply qf | apply qj | refine qd ?_ (IsS4.ge HI3.out) | refine qd ?_ GE507.out | refine qd ?_ GE508.out | refine qd ?_ GE509.out) | exact HB.out), by repeat (first | (with_reducible first | exact HK.out | apply qe.set_ | apply ql | apply qq | apply qm | refine qp ?_ GW507.out _ | refine qp ?_ GW508.out _ | refine qp ?_ GW509.out _) | exact HK.out)⟩
mutual
def qK.l0 : Nat → List (S36) → List (S36) → Int → Int → Bool → Option (Bool)
 | 0, _, _, _, _, _ => none
 | k + 1, x0, x10, x11, x12, x2000 => if x12 < x11 then (if 0 ≤ x12 then (if x12 < (x10.length : Int) then (if x12 ≤ (x0.length : Int) then ((some (x0.take (x12 : Int).toNat : List (S36))).bind fun y513 => (qK.l1 k x0 x10 x11 x12 y513 (y513.length : Int) 0 x2000 ((qb x10 x12).f0) ((qb x10 x12).f1))) else (none)) else (none)) else (none)) else (some x2000)
def qK.l1 : Nat → List (S36) → List (S36) → Int → Int → List (S36) → Int → Int → Bool → Int → Int → Option (Bool)
 | 0, _, _, _, _, _, _, _, _, _, _ => none
 | k + 1, x0, x10, x11, x12, x19, x20, x21, x2000, x513000, x513001 => if x21 < x20 then (if 0 ≤ x21 then (if x21 < (x19.length : Int) then (if x21 ≤ (x0.length : Int) then ((some (x0.take (x21 : Int).toNat : List (S36))).bind fun y519 => (qK.l2 k x0 x10 x11 x12 x19 x20 x21 y519 (y519.length : Int) 0 x2000 x513000 x513001 ((qb x19 x21).f0) ((qb x19 x21).f1))) else (none)) else (none)) else (none)) else (qK.l0 k x0 x10 x11 (wrap64 (x12 + 1)) x2000)
def qK.l2 : Nat → List (S36) → List (S36) → Int → Int → List (S36) → Int → Int → List (S36) → Int → Int → Bool → Int → Int → Int → Int → Option (Bool)
 | 0, _, _, _, _, _, _, _, _, _, _, _, _, _, _, _ => none
 | k + 1, x0, x10, x11, x12, x19, x20, x21, x28, x29, x30, x2000, x513000, x513001, x519000, x519001 => if x30 < x29 then (if 0 ≤ x30 then (if x30 < (x28.length : Int) then ((jZ.f x513000 x513001 x519000 x519001 ((qb x28 x30).f0) ((qb x28 x30).f1) x2000).bind fun t525 => (qK.l2 k x0 x10 x11 x12 x19 x20 x21 x28 x29 (wrap64 (x30 + 1)) t525 x513000 x513001 x519000 x519001)) else (none)) else (none)) else (qK.l1 k x0 x10 x11 x12 x19 x20 (wrap64 (x21 + 1)) x2000 x513000 x513001)
end
def qK.f (k : Nat) (l0 : List (S36)) (s1_0 : Bool) : Option (Bool) := qK.l0 k l0 l0 (l0.length : Int) 0 s1_0
theorem qK.mono_l : ∀ k, (∀ y0 y1 y2 y3 y4, LeO (qK.l0 k y0 y1 y2 y3 y4) (qK.l0 (k + 1) y0 y1 y2 y3 y4)) ∧ (∀ y0 y1 y2 y3 y4 y5 y6 y7 y8 y9, LeO (qK.l1 k y0 y1 y2 y3 y4 y5 y6 y7 y8 y9) (qK.l1 (k + 1) y0 y1 y2 y3 y4 y5 y6 y7 y8 y9)) ∧ (∀ y0 y1 y2 y3 y4 y5 y6 y7 y8 y9 y10 y11 y12 y13 y14, LeO (qK.l2 k y0 y1 y2 y3 y4 y5 y6 y7 y8 y9 y10 y11 y12 y13 y14) (qK.l2 (k + 1) y0 y1 y2 y3 y4 y5 y6 y7 y8 y9 y10 y11 y12 y13 y14))
 | 0 => ⟨fun _ _ _ _ _ r h => by simp [qK.l0] at h, fun _ _ _ _ _ _ _ _ _ _ r h => by simp [qK.l1] at h, fun _ _ _ _ _ _ _ _ _ _ _ _ _ _ _ r h => by simp [qK.l2] at h⟩
 | k + 1 => by
  obtain ⟨ih0, ih1, ih2⟩ := qK.mono_l k
  refine ⟨?_, ?_, ?_⟩
  ·intro y0 y1 y2 y3 y4
   unfold qK.l0
   repeat' first
   | (with_reducible exact ih0 _ _ _ _ _)
   | (with_reducible exact ih1 _ _ _ _ _ _ _ _ _ _)
   | (with_reducible exact ih2 _ _ _ _ _ _ _ _ _ _ _ _ _ _ _)
   | (with_reducible exact LeO.refl _)
   | (with_reducible exact LeO.none _)
   | (with_reducible refine LeO.ite ?_ ?_)
   | (with_reducible refine LeO.bind ?_ (fun _ => ?_))
  ·intro y0 y1 y2 y3 y4 y5 y6 y7 y8 y9
   unfold qK.l1
   repeat' first
   | (with_reducible exact ih0 _ _ _ _ _)
   | (with_reducible exact ih1 _ _ _ _ _ _ _ _ _ _)
   | (with_reducible exact ih2 _ _ _ _ _ _ _ _ _ _ _ _ _ _ _)
   | (with_reducible exact LeO.refl _)
   | (with_reducible exact LeO.none _)
   | (with_reducible refine LeO.ite ?_ ?_)
   | (with_reducible refine LeO.bind ?_ (fun _ => ?_))
  ·intro y0 y1 y2 y3 y4 y5 y6 y7 y8 y9 y10 y11 y12 y13 y14
   unfold qK.l2
   repeat' first
   | (with_reducible exact ih0 _ _ _ _ _)
   | (with_reducible exact ih1 _ _ _ _ _ _ _ _ _ _)
   | (with_reducible exact ih2 _ _ _ _ _ _ _ _ _ _ _ _ _ _ _)
   | (with_reducible exact LeO.refl _)
   | (with_reducible exact LeO.none _)
   | (with_reducible refine LeO.ite ?_ ?_)
   | (with_reducible refine LeO.bind ?_ (fun _ => ?_))
theorem qK.mono : ∀ a0 a1 k, LeO (qK.f k a0 a1) (qK.f (k + 1) a0 a1) := by
 intro a0 a1 k; obtain ⟨ih0, ih1, ih2⟩ := qK.mono_l k; unfold qK.f
 repeat' first
   | (with_reducible exact ih0 _ _ _ _ _)
   | (with_reducible exact ih1 _ _ _ _ _ _ _ _ _ _)
   | (with_reducible exact ih2 _ _ _ _ _ _ _ _ _ _ _ _ _ _ _)
   | (with_reducible exact LeO.refl _)
   | (with_reducible exact LeO.none _)
   | (with_reducible refine LeO.ite ?_ ?_)
   | (with_reducible refine LeO.bind ?_ (fun _ => ?_))
set_option maxHeartbeats 8000000 in
set_option maxRecDepth 100000 in
theorem qK.calls (k : Nat) (A0 : Option Addr) (c0 : Nat) (l0 : List (S36)) (g : Nat) (s1_0 : Bool) (r : Bool) (w0 w : World) (hI : IsS4 w0 w g s1_0) (hB : Below w0.heap.size w0 w) (hr0 : ∀ W_, qe w W_ g none → Kd.C k36 W_ A0 l0.length l0) (hc0 : l0.length ≤ c0) (h : qK.f k l0 s1_0 = some r) :
  Calls Try.prog 37 #[.slice A0 l0.length c0, .func (.func 53) #[] #[.pointer (some ⟨g, 0, none⟩)]] w fun e w' => e = .returned (.tuple #[]) ∧ IsS4 w0 w' g r ∧ Below w0.heap.size w0 w' ∧ qe w w' g none := by
 have hu36 := Try.underlying36; have HR0 := qa.mk hr0; have HC0 := qa.mk hc0; clear hr0 hc0; have HI1 := qa.mk hI; have HK := qa.mk (qe.refl w g none); have HL := qa.mk hB.size; clear hI; have HW0 := qa.mk hB.size; have HB := qa.mk hB; clear hB; have H : (qK.l0 k l0 l0 (l0.length : Int) 0 s1_0) = some r := h; clear h; have H' := qa.mk H; clear H; go_enter Try.func37, Try.ntmps37; go_wp2
 go_loopg [12] k (fun kq v12 w' => ∃ (x12_1 : Int) (x2000_1 : Bool), v12 = .int .i64 x12_1 ∧ qa (qK.l0 kq l0 l0 (l0.length : Int) x12_1 x2000_1 = some r) ∧ qa (kq ≤ k) ∧ qa (IsS4 w0 w' g x2000_1) ∧ qa (qe w w' g none) ∧ qa (Below w0.heap.size w0 w'))
 case atStart => exact ⟨(0), (s1_0), (by first | rfl | (simp; done) | (simp [*]; done)), H', ⟨Nat.le_refl _⟩, ⟨by repeat (first | (with_reducible first | exact HI1.out | apply IsS4.alloc | apply IsS4.drewN | apply IsS4.drew | apply IsS4.zm) | exact HI1.out)⟩, ⟨by repeat (first | (with_reducible first | exact HK.out | apply qe.set_ | apply ql | apply qq | apply qm) | exact HK.out)⟩, ⟨by repeat (first | (with_reducible first | exact HB.out | apply qk | apply qf | apply qj | refine qd ?_ (IsS4.ge HI1.out)) | exact HB.out)⟩⟩
 case round =>
  clear H'; (try clear c1; try clear p2); obtain ⟨x12_1, x2000_1, rfl, HA, HK1, HI1, HK, HB⟩ := hrel
  cases gk with
  | zero => exact absurd HA.out (by simp [qK.l0])
  | succ k1 =>
   have H := HA.out; clear HA; simp only [qK.l0] at H; by_cases c3 : x12_1 < (l0.length : Int)
   ·rw [if_pos c3] at H
    have c3b0 : decide (x12_1 < (l0.length : Int)) = true := decide_eq_true c3; clear c3; by_cases c4 : 0 ≤ x12_1
    ·rw [if_pos c4] at H
     have c4b0 : decide (0 ≤ x12_1) = true := decide_eq_true c4; clear c4; by_cases c5 : x12_1 < (l0.length : Int)
     ·rw [if_pos c5] at H
      have c5b0 : decide (x12_1 < (l0.length : Int)) = true := decide_eq_true c5; clear c5; have c6b0 := eq_true (odt_ : 0 ≤ x12_1); by_cases c7 : x12_1 ≤ (l0.length : Int)
      ·rw [if_pos c7] at H
       have c7b0 := eq_true c7; have c7b1 : decide (x12_1 ≤ (l0.length : Int)) = true := decide_eq_true c7; clear c7; obtain ⟨y513, hy513⟩ : ∃ y_ : List (S36), y_ = (l0.take (x12_1 : Int).toNat) := ⟨_, rfl⟩; (replace H : (qK.l1 k1 l0 l0 (l0.length : Int) x12_1 y513 (y513.length : Int) 0 x2000_1 ((qb l0 x12_1).f0) ((qb l0 x12_1).f1)) = some r := by first | (rw [hy513]; with_reducible exact H) | (have H2_ := (Option.bind_some _ _).symm.trans H; rw [hy513]; with_reducible exact H2_) | (have H2_ := (Option.bind_some _ _).symm.trans H; with_reducible exact H2_) | with_reducible exact H | (rw [hy513]; exact H) | exact H); have Ny513 := qa.mk hy513; clear hy513; have H' := qa.mk H; clear H; have p511 : 0 ≤ (x12_1 : Int) := odt_; have q511 : x12_1 < (l0.length : Int) := odt_; obtain ⟨ad511, e511, hx511_0, hx511_1⟩ := zF (Kd.jA HR0.out HK.out) x12_1 p511 q511; cases e511; replace p511 := eq_true p511; replace q511 := eq_true q511
       go_wp2_with (first | ((with_reducible refine qN (N := 5) rfl ?_); refine qO ?hg (N := 5) ?hd (cs := #[.int .i64 0, .int .i64 0]) (t := 36) ?hr ?_; (case hd => rfl); (case hg => rfl); (case hr => first | (go_simp; done) | (go_simp; rfl)); intro gb512 hg w8 hbox hb; replace HB := qa.mk (qh (by repeat (first | (with_reducible first | exact HB.out | apply qk | apply qf | apply qj | refine qd ?_ (IsS4.ge HI1.out)) | exact HB.out)) hb); have BK512 := qa.mk (hbox); have GW512 := qa.mk ((by rw [hg]; exact (zf (w := w) (g := g) (row := none) (by repeat (first | (with_reducible first | exact HK.out | apply qe.set_ | apply ql | apply qq | apply qm) | exact HK.out))) : w.heap.size ≤ gb512)); have GE512 := qa.mk ((Nat.le_trans HW0.out (by rw [hg]; exact (zf (w := w) (g := g) (row := none) (by repeat (first | (with_reducible first | exact HK.out | apply qe.set_ | apply ql | apply qq | apply qm) | exact HK.out))) : w.heap.size ≤ gb512) : w0.heap.size ≤ gb512)); replace HK := qa.mk (qe.trans (by repeat (first | (with_reducible first | exact HK.out | apply qe.set_ | apply ql | apply qq | apply qm) | exact HK.out)) (qe.of_below hb g none) (.inl rfl)); have NB1_512 := qa.mk ((by rw [hg]; exact Nat.ne_of_lt (IsS4.lt (show IsS4 w0 _ g x2000_1 from by repeat (first | (with_reducible first | exact HI1.out | apply IsS4.alloc | apply IsS4.drewN | apply IsS4.drew | apply IsS4.zm) | exact HI1.out))) : g ≠ gb512)); have NB512_1 := qa.mk ((by rw [hg]; exact Nat.ne_of_gt (IsS4.lt (show IsS4 w0 _ g x2000_1 from by repeat (first | (with_reducible first | exact HI1.out | apply IsS4.alloc | apply IsS4.drewN | apply IsS4.drew | apply IsS4.zm) | exact HI1.out))) : gb512 ≠ g)); replace HI1 := qa.mk (IsS4.below (by repeat (first | (with_reducible first | exact HI1.out | apply IsS4.alloc | apply IsS4.drewN | apply IsS4.drew | apply IsS4.zm) | exact HI1.out)) hb); clear hb hbox hg; have hnb9 := NB512_1.out; have hnc9 := NB1_512.out; have hcz10_0 : w8.cell? ⟨gb512, 0, none⟩ = some (.int .i64 0) := (qc BK512.out 0).trans rfl; have hcz10_1 : w8.cell? ⟨gb512, 1, none⟩ = some (.int .i64 0) := (qc BK512.out 1).trans rfl; have hfz10_0 := qg BK512.out 0; have hfz10_1 := qg BK512.out 1) | ((with_reducible refine ju (t := 36) (p := 5) rfl ?_); refine jl (t := 36) (p := 5) (v := ?vo_w11) (w1 := ((w8.setCell ⟨gb512, 0, none⟩ (.int .i64 ((qb l0 x12_1).f0))).setCell ⟨gb512, 1, none⟩ (.int .i64 ((qb l0 x12_1).f1)))) ?hg ?ho ?hn ?hr ?_; (case ho => rfl); (case hg => rfl); (case hn => rfl); (case hr => first | (go_simp; done) | (go_simp; rfl)); intro w11 hw; replace BK512 : qa (w11.heap[gb512]? = some (.cells #[.int .i64 ((qb l0 x12_1).f0), .int .i64 ((qb l0 x12_1).f1)] 36 (0, 0))) := ⟨(by rw [hw]; exact (by (with_reducible repeat (first | refine qu ?_ _ | refine qx ?_ | refine qt ?_ _)); refine zo (cs := #[.int .i64 ((qb l0 x12_1).f0), .int .i64 0]) ?_ 1 _ rfl; (with_reducible repeat (first | refine qu ?_ _ | refine qx ?_ | refine qt ?_ _)); refine zo (cs := #[.int .i64 0, .int .i64 0]) ?_ 0 _ rfl; (with_reducible repeat (first | refine qu ?_ _ | refine qx ?_ | refine qt ?_ _)); exact BK512.out))⟩; replace HK : qa (qe w w11 g none) := ⟨(by rw [hw]; exact (by repeat (first | (with_reducible first | exact HK.out | apply qe.set_ | apply ql | apply qq | apply qm | refine qp ?_ GW512.out _) | exact HK.out)))⟩; replace HB : qa (Below w0.heap.size w0 w11) := ⟨(by rw [hw]; exact (by repeat (first | (with_reducible first | exact HB.out | apply qk | apply qf | apply qj | refine qd ?_ (IsS4.ge HI1.out) | refine qd ?_ GE512.out) | exact HB.out)))⟩; replace HI1 : qa (IsS4 w0 w11 g x2000_1) := ⟨(by rw [hw]; exact (by repeat (first | (with_reducible first | exact HI1.out | apply IsS4.alloc | apply IsS4.drewN | apply IsS4.drew | apply IsS4.zm | refine IsS4.far ?_ NB1_512.out _) | exact HI1.out)))⟩; clear hw; have q12 : (x12_1 : Int) ≤ ((l0.length : Int) : Int) := odt_; obtain ⟨i012, hi012, _, hsz12, _⟩ := info_parts js; have hroom12 : l0.length ≤ c0 := HC0.out; have hC12 : Kd.C k36 _ (some ad511) l0.length l0 := (Kd.jA HR0.out HK.out); have hcut12 := cut_to (P := Try.prog) 28 36 .i64 Try.underlying28 hi012 (some ad511) l0.length c0 x12_1 (odt_) q12 hroom12; have hr12 := Kd.jx (m := (x12_1 : Int).toNat) hC12 (by omega); have hy12 : y513.length = (x12_1 : Int).toNat := (by rw [Ny513.out, List.length_take]; omega); rw [← Ny513.out] at hr12; rw [← hy12] at hcut12; have HR516 := qa.mk hr12; have HC516 := qa.mk (show y513.length ≤ c0 from by omega); clear hr12 hC12 hroom12 hi012 hsz12; have KY12 := qa.mk hy12; clear hy12; have KL12 := qa.mk (show (x12_1 : Int).toNat ≤ l0.length from by omega); replace q12 := eq_true q12))
       go_loopg [21] k1 (fun kq v21 w' => ∃ (x21_2 : Int) (x2000_2 : Bool), v21 = .int .i64 x21_2 ∧ qa (qK.l1 kq l0 l0 (l0.length : Int) x12_1 y513 (y513.length : Int) x21_2 x2000_2 ((qb l0 x12_1).f0) ((qb l0 x12_1).f1) = some r) ∧ qa (kq ≤ k1) ∧ qa (w'.heap[gb512]? = some (.cells #[.int .i64 ((qb l0 x12_1).f0), .int .i64 ((qb l0 x12_1).f1)] 36 (0, 0))) ∧ qa (Kd.C k36 w' (some ad511) y513.length y513) ∧ qa (IsS4 w0 w' g x2000_2) ∧ qa (qe w w' g none) ∧ qa (Below w0.heap.size w0 w'))
       case atStart => exact ⟨(0), (x2000_1), (by first | rfl | (simp; done) | (simp [*]; done)), H', ⟨Nat.le_refl _⟩, ⟨bk_ BK512.out⟩, ⟨by repeat (first | (with_reducible exact HR516.out) | (with_reducible refine Kd.qZ ?_ _) | (with_reducible refine Kd.qY ?_ _) | (with_reducible refine Kd.zi ?_) | exact HR516.out)⟩, ⟨by repeat (first | (with_reducible first | exact HI1.out | apply IsS4.alloc | apply IsS4.drewN | apply IsS4.drew | apply IsS4.zm | refine IsS4.far ?_ NB1_512.out _) | exact HI1.out)⟩, ⟨by repeat (first | (with_reducible first | exact HK.out | apply qe.set_ | apply ql | apply qq | apply qm | refine qp ?_ GW512.out _) | exact HK.out)⟩, ⟨by repeat (first | (with_reducible first | exact HB.out | apply qk | apply qf | apply qj | refine qd ?_ (IsS4.ge HI1.out) | refine qd ?_ GE512.out) | exact HB.out)⟩⟩
       case round =>
        clear H'; (try clear c1; try clear q1; try clear p2; try clear c3; try clear c3b0; try clear c4; try clear c4b0; try clear c5; try clear c5b0; try clear p5; try clear q5; try clear hx5; try clear c6; try clear c6b0; try clear c7; try clear c7b0; try clear c7b1; try clear c9; try clear q12; try clear hcz10_0; try clear hcz10_1; try clear hfz10_0; try clear hfz10_1; try clear hx511_0; try clear hx511_1; try clear p2; try clear p511; try clear q12; try clear q511); obtain ⟨x21_2, x2000_2, rfl, HA, HK2, BK512, HR516, HI1, HK, HB⟩ := hrel
        cases gk with
        | zero => exact absurd HA.out (by simp [qK.l1])
        | succ k2 =>
         have H := HA.out; clear HA; simp only [qK.l1] at H; by_cases c13 : x21_2 < (y513.length : Int)
         ·rw [if_pos c13] at H
          have c13b0 : decide (x21_2 < (y513.length : Int)) = true := decide_eq_true c13; clear c13; by_cases c14 : 0 ≤ x21_2
          ·rw [if_pos c14] at H
           have c14b0 : decide (0 ≤ x21_2) = true := decide_eq_true c14; clear c14; by_cases c15 : x21_2 < (y513.length : Int)
           ·rw [if_pos c15] at H
            have c15b0 : decide (x21_2 < (y513.length : Int)) = true := decide_eq_true c15; clear c15; have c16b0 := eq_true (odt_ : 0 ≤ x21_2); by_cases c17 : x21_2 ≤ (l0.length : Int)
            ·rw [if_pos c17] at H
             have c17b0 := eq_true c17; have c17b1 : decide (x21_2 ≤ (l0.length : Int)) = true := decide_eq_true c17; clear c17; obtain ⟨y519, hy519⟩ : ∃ y_ : List (S36), y_ = (l0.take (x21_2 : Int).toNat) := ⟨_, rfl⟩; (replace H : (qK.l2 k2 l0 l0 (l0.length : Int) x12_1 y513 (y513.length : Int) x21_2 y519 (y519.length : Int) 0 x2000_2 ((qb l0 x12_1).f0) ((qb l0 x12_1).f1) ((qb y513 x21_2).f0) ((qb y513 x21_2).f1)) = some r := by first | (rw [hy519]; with_reducible exact H) | (have H2_ := (Option.bind_some _ _).symm.trans H; rw [hy519]; with_reducible exact H2_) | (have H2_ := (Option.bind_some _ _).symm.trans H; with_reducible exact H2_) | with_reducible exact H | (rw [hy519]; exact H) | exact H); have Ny519 := qa.mk hy519; clear hy519; have H' := qa.mk H; clear H; have p517 : 0 ≤ (x21_2 : Int) := odt_; have q517 : x21_2 < (y513.length : Int) := odt_; obtain ⟨ad517, e517, hx517_0, hx517_1⟩ := zF (by repeat (first | (with_reducible exact HR516.out) | (with_reducible refine Kd.qZ ?_ _) | (with_reducible refine Kd.qY ?_ _) | (with_reducible refine Kd.zi ?_) | exact HR516.out)) x21_2 p517 q517; obtain rfl : ad511 = ad517 := (by injection e517); replace p517 := eq_true p517; replace q517 := eq_true q517
             go_wp2_with (first | ((with_reducible refine qN (N := 7) rfl ?_); refine qO ?hg (N := 7) ?hd (cs := #[.int .i64 0, .int .i64 0]) (t := 36) ?hr ?_; (case hd => rfl); (case hg => rfl); (case hr => first | (go_simp; done) | (go_simp; rfl)); intro gb518 hg w18 hbox hb; replace HR516 := qa.mk (Kd.zV (by repeat (first | (with_reducible exact HR516.out) | (with_reducible refine Kd.qZ ?_ _) | (with_reducible refine Kd.qY ?_ _) | (with_reducible refine Kd.zi ?_) | exact HR516.out)) hb); replace HB := qa.mk (qh (by repeat (first | (with_reducible first | exact HB.out | apply qk | apply qf | apply qj | refine qd ?_ (IsS4.ge HI1.out) | refine qd ?_ GE512.out) | exact HB.out)) hb); have BK518 := qa.mk (hbox); have GW518 := qa.mk ((by rw [hg]; exact (zf (w := w) (g := g) (row := none) (by repeat (first | (with_reducible first | exact HK.out | apply qe.set_ | apply ql | apply qq | apply qm | refine qp ?_ GW512.out _) | exact HK.out))) : w.heap.size ≤ gb518)); have GE518 := qa.mk ((Nat.le_trans HW0.out (by rw [hg]; exact (zf (w := w) (g := g) (row := none) (by repeat (first | (with_reducible first | exact HK.out | apply qe.set_ | apply ql | apply qq | apply qm | refine qp ?_ GW512.out _) | exact HK.out))) : w.heap.size ≤ gb518) : w0.heap.size ≤ gb518)); replace HK := qa.mk (qe.trans (by repeat (first | (with_reducible first | exact HK.out | apply qe.set_ | apply ql | apply qq | apply qm | refine qp ?_ GW512.out _) | exact HK.out)) (qe.of_below hb g none) (.inl rfl)); have NB512_518 := qa.mk ((by rw [hg]; exact Nat.ne_of_lt (qR (bk_ BK512.out)) : gb512 ≠ gb518)); have NB518_512 := qa.mk ((by rw [hg]; exact Nat.ne_of_gt (qR (bk_ BK512.out)) : gb518 ≠ gb512)); replace BK512 := bb_ BK512 hb; have NB1_518 := qa.mk ((by rw [hg]; exact Nat.ne_of_lt (IsS4.lt (show IsS4 w0 _ g x2000_2 from by repeat (first | (with_reducible first | exact HI1.out | apply IsS4.alloc | apply IsS4.drewN | apply IsS4.drew | apply IsS4.zm | refine IsS4.far ?_ NB1_512.out _) | exact HI1.out))) : g ≠ gb518)); have NB518_1 := qa.mk ((by rw [hg]; exact Nat.ne_of_gt (IsS4.lt (show IsS4 w0 _ g x2000_2 from by repeat (first | (with_reducible first | exact HI1.out | apply IsS4.alloc | apply IsS4.drewN | apply IsS4.drew | apply IsS4.zm | refine IsS4.far ?_ NB1_512.out _) | exact HI1.out))) : gb518 ≠ g)); replace HI1 := qa.mk (IsS4.below (by repeat (first | (with_reducible first | exact HI1.out | apply IsS4.alloc | apply IsS4.drewN | apply IsS4.drew | apply IsS4.zm | refine IsS4.far ?_ NB1_512.out _) | exact HI1.out)) hb); clear hb hbox hg; have hnb19 := NB518_512.out; have hnc19 := NB512_518.out; have hnb20 := NB518_1.out; have hnc20 := NB1_518.out; have hcz21_0 : w18.cell? ⟨gb518, 0, none⟩ = some (.int .i64 0) := (qc BK518.out 0).trans rfl; have hcz21_1 : w18.cell? ⟨gb518, 1, none⟩ = some (.int .i64 0) := (qc BK518.out 1).trans rfl; have hfz21_0 := qg BK518.out 0; have hfz21_1 := qg BK518.out 1) | ((with_reducible refine ju (t := 36) (p := 7) rfl ?_); refine jl (t := 36) (p := 7) (v := ?vo_w22) (w1 := ((w18.setCell ⟨gb518, 0, none⟩ (.int .i64 ((qb y513 x21_2).f0))).setCell ⟨gb518, 1, none⟩ (.int .i64 ((qb y513 x21_2).f1)))) ?hg ?ho ?hn ?hr ?_; (case ho => rfl); (case hg => rfl); (case hn => rfl); (case hr => first | (go_simp; done) | (go_simp; rfl)); intro w22 hw; replace HR516 : qa (Kd.C k36 w22 (some ad511) y513.length y513) := ⟨(by rw [hw]; exact ((by skip; exact (show ∀ W_ : World, Kd.C k36 W_ (some ad511) (l0.take (x12_1 : Int).toNat).length (l0.take (x12_1 : Int).toNat) → Kd.C k36 W_ (some ad511) y513.length y513 from fun W_ h_ => by rw [Ny513.out]; exact h_) _ (Kd.jx (m := (x12_1 : Int).toNat) (Kd.jA HR0.out (show qe w ((w18.setCell ⟨gb518, 0, none⟩ (.int .i64 ((qb y513 x21_2).f0))).setCell ⟨gb518, 1, none⟩ (.int .i64 ((qb y513 x21_2).f1))) g none from (by repeat (first | (with_reducible first | exact HK.out | apply qe.set_ | apply ql | apply qq | apply qm | refine qp ?_ GW512.out _ | refine qp ?_ GW518.out _) | exact HK.out)))) KL12.out))))⟩; replace BK512 : qa (w22.heap[gb512]? = some (.cells #[.int .i64 ((qb l0 x12_1).f0), .int .i64 ((qb l0 x12_1).f1)] 36 (0, 0))) := ⟨(by rw [hw]; exact (bf2_ BK512 NB512_518))⟩; replace BK518 : qa (w22.heap[gb518]? = some (.cells #[.int .i64 ((qb y513 x21_2).f0), .int .i64 ((qb y513 x21_2).f1)] 36 (0, 0))) := ⟨(by rw [hw]; exact (by (with_reducible repeat (first | refine qu ?_ _ | refine qx ?_ | refine qt ?_ _)); refine zo (cs := #[.int .i64 ((qb y513 x21_2).f0), .int .i64 0]) ?_ 1 _ rfl; (with_reducible repeat (first | refine qu ?_ _ | refine qx ?_ | refine qt ?_ _)); refine zo (cs := #[.int .i64 0, .int .i64 0]) ?_ 0 _ rfl; (with_reducible repeat (first | refine qu ?_ _ | refine qx ?_ | refine qt ?_ _)); exact BK518.out))⟩; replace HK : qa (qe w w22 g none) := ⟨(by rw [hw]; exact (by repeat (first | (with_reducible first | exact HK.out | apply qe.set_ | apply ql | apply qq | apply qm | refine qp ?_ GW512.out _ | refine qp ?_ GW518.out _) | exact HK.out)))⟩; replace HB : qa (Below w0.heap.size w0 w22) := ⟨(by rw [hw]; exact (by repeat (first | (with_reducible first | exact HB.out | apply qk | apply qf | apply qj | refine qd ?_ (IsS4.ge HI1.out) | refine qd ?_ GE512.out | refine qd ?_ GE518.out) | exact HB.out)))⟩; replace HI1 : qa (IsS4 w0 w22 g x2000_2) := ⟨(by rw [hw]; exact (by repeat (first | (with_reducible first | exact HI1.out | apply IsS4.alloc | apply IsS4.drewN | apply IsS4.drew | apply IsS4.zm | refine IsS4.far ?_ NB1_512.out _ | refine IsS4.far ?_ NB1_518.out _) | exact HI1.out)))⟩; clear hw; have q23 : (x21_2 : Int) ≤ ((l0.length : Int) : Int) := odt_; obtain ⟨i023, hi023, _, hsz23, _⟩ := info_parts js; have hroom23 : l0.length ≤ c0 := HC0.out; have hC23 : Kd.C k36 _ (some ad511) l0.length l0 := (Kd.jA HR0.out HK.out); have hcut23 := cut_to (P := Try.prog) 28 36 .i64 Try.underlying28 hi023 (some ad511) l0.length c0 x21_2 (odt_) q23 hroom23; have hr23 := Kd.jx (m := (x21_2 : Int).toNat) hC23 (by omega); have hy23 : y519.length = (x21_2 : Int).toNat := (by rw [Ny519.out, List.length_take]; omega); rw [← Ny519.out] at hr23; rw [← hy23] at hcut23; have HR522 := qa.mk hr23; have HC522 := qa.mk (show y519.length ≤ c0 from by omega); clear hr23 hC23 hroom23 hi023 hsz23; have KY23 := qa.mk hy23; clear hy23; have KL23 := qa.mk (show (x21_2 : Int).toNat ≤ l0.length from by omega); replace q23 := eq_true q23))
             go_loopg [30] k2 (fun kq v30 w' => ∃ (x30_3 : Int) (x2000_3 : Bool), v30 = .int .i64 x30_3 ∧ qa (qK.l2 kq l0 l0 (l0.length : Int) x12_1 y513 (y513.length : Int) x21_2 y519 (y519.length : Int) x30_3 x2000_3 ((qb l0 x12_1).f0) ((qb l0 x12_1).f1) ((qb y513 x21_2).f0) ((qb y513 x21_2).f1) = some r) ∧ qa (kq ≤ k2) ∧ qa (w'.heap[gb512]? = some (.cells #[.int .i64 ((qb l0 x12_1).f0), .int .i64 ((qb l0 x12_1).f1)] 36 (0, 0))) ∧ qa (w'.heap[gb518]? = some (.cells #[.int .i64 ((qb y513 x21_2).f0), .int .i64 ((qb y513 x21_2).f1)] 36 (0, 0))) ∧ qa (Kd.C k36 w' (some ad511) y513.length y513) ∧ qa (Kd.C k36 w' (some ad511) y519.length y519) ∧ qa (IsS4 w0 w' g x2000_3) ∧ qa (qe w w' g none) ∧ qa (Below w0.heap.size w0 w'))
             case atStart => exact ⟨(0), (x2000_2), (by first | rfl | (simp; done) | (simp [*]; done)), H', ⟨Nat.le_refl _⟩, ⟨bk_ BK512.out⟩, ⟨bk_ BK518.out⟩, ⟨by repeat (first | (with_reducible exact HR516.out) | (with_reducible refine Kd.qZ ?_ _) | (with_reducible refine Kd.qY ?_ _) | (with_reducible refine Kd.zi ?_) | exact HR516.out)⟩, ⟨by repeat (first | (with_reducible exact HR522.out) | (with_reducible refine Kd.qZ ?_ _) | (with_reducible refine Kd.qY ?_ _) | (with_reducible refine Kd.zi ?_) | exact HR522.out)⟩, ⟨by repeat (first | (with_reducible first | exact HI1.out | apply IsS4.alloc | apply IsS4.drewN | apply IsS4.drew | apply IsS4.zm | refine IsS4.far ?_ NB1_512.out _ | refine IsS4.far ?_ NB1_518.out _) | exact HI1.out)⟩, ⟨by repeat (first | (with_reducible first | exact HK.out | apply qe.set_ | apply ql | apply qq | apply qm | refine qp ?_ GW512.out _ | refine qp ?_ GW518.out _) | exact HK.out)⟩, ⟨by repeat (first | (with_reducible first | exact HB.out | apply qk | apply qf | apply qj | refine qd ?_ (IsS4.ge HI1.out) | refine qd ?_ GE512.out | refine qd ?_ GE518.out) | exact HB.out)⟩⟩
             case round =>
              clear H'
              try clear c1; try clear q1; try clear c2; try clear p2; try clear q2; try clear c3; try clear c3b0; try clear c4; try clear c4b0; try clear c5; try clear c5b0; try clear p5; try clear q5; try clear hx5; try clear c6; try clear c6b0; try clear c7; try clear c7b0; try clear c7b1; try clear c9; try clear q12; try clear c13; try clear c13b0; try clear c14; try clear c14b0; try clear c15; try clear c15b0; try clear c16; try clear c16b0; try clear c17; try clear c17b0; try clear c17b1; try clear c19; try clear c20; try clear q23; try clear hcz10_0; try clear hcz10_1; try clear hcz21_0; try clear hcz21_1; try clear hfz10_0; try clear hfz10_1; try clear hfz21_0; try clear hfz21_1; try clear hx511_0; try clear hx511_1; try clear hx517_0; try clear hx517_1; try clear p2; try clear p5; try clear p511; try clear p517; try clear q1; try clear q12; try clear q23; try clear q5; try clear q511; try clear q517
              obtain ⟨x30_3, x2000_3, rfl, HA, HK3, BK512, BK518, HR516, HR522, HI1, HK, HB⟩ := hrel
              cases gk with
              | zero => exact absurd HA.out (by simp [qK.l2])
              | succ k3 =>
               have H := HA.out; clear HA; simp only [qK.l2] at H; by_cases c24 : x30_3 < (y519.length : Int)
               ·rw [if_pos c24] at H
                have c24b0 : decide (x30_3 < (y519.length : Int)) = true := decide_eq_true c24; clear c24; by_cases c25 : 0 ≤ x30_3
                ·rw [if_pos c25] at H
                 have c25b0 : decide (0 ≤ x30_3) = true := decide_eq_true c25; clear c25; by_cases c26 : x30_3 < (y519.length : Int)
                 ·rw [if_pos c26] at H
                  have c26b0 : decide (x30_3 < (y519.length : Int)) = true := decide_eq_true c26; clear c26; replace H := Option.bind_eq_some_iff.mp H; obtain ⟨t525, A270, H⟩ := H; (try dsimp -simprocs only at H); have A27 := qa.mk A270; clear A270; have H' := qa.mk H; clear H; have p523 : 0 ≤ (x30_3 : Int) := odt_; have q523 : x30_3 < (y519.length : Int) := odt_; obtain ⟨ad523, e523, hx523_0, hx523_1⟩ := zF (by repeat (first | (with_reducible exact HR522.out) | (with_reducible refine Kd.qZ ?_ _) | (with_reducible refine Kd.qY ?_ _) | (with_reducible refine Kd.zi ?_) | exact HR522.out)) x30_3 p523 q523; obtain rfl : ad511 = ad523 := (by injection e523); replace p523 := eq_true p523; replace q523 := eq_true q523
                  go_wp2_with (first | ((with_reducible refine qN (N := 9) rfl ?_); refine qO ?hg (N := 9) ?hd (cs := #[.int .i64 0, .int .i64 0]) (t := 36) ?hr ?_; (case hd => rfl); (case hg => rfl); (case hr => first | (go_simp; done) | (go_simp; rfl)); intro gb524 hg w28 hbox hb; replace HR516 := qa.mk (Kd.zV (by repeat (first | (with_reducible exact HR516.out) | (with_reducible refine Kd.qZ ?_ _) | (with_reducible refine Kd.qY ?_ _) | (with_reducible refine Kd.zi ?_) | exact HR516.out)) hb); replace HR522 := qa.mk (Kd.zV (by repeat (first | (with_reducible exact HR522.out) | (with_reducible refine Kd.qZ ?_ _) | (with_reducible refine Kd.qY ?_ _) | (with_reducible refine Kd.zi ?_) | exact HR522.out)) hb); replace HB := qa.mk (qh (by repeat (first | (with_reducible first | exact HB.out | apply qk | apply qf | apply qj | refine qd ?_ (IsS4.ge HI1.out) | refine qd ?_ GE512.out | refine qd ?_ GE518.out) | exact HB.out)) hb); have BK524 := qa.mk (hbox); have GW524 := qa.mk ((by rw [hg]; exact (zf (w := w) (g := g) (row := none) (by repeat (first | (with_reducible first | exact HK.out | apply qe.set_ | apply ql | apply qq | apply qm | refine qp ?_ GW512.out _ | refine qp ?_ GW518.out _) | exact HK.out))) : w.heap.size ≤ gb524)); have GE524 := qa.mk ((Nat.le_trans HW0.out (by rw [hg]; exact (zf (w := w) (g := g) (row := none) (by repeat (first | (with_reducible first | exact HK.out | apply qe.set_ | apply ql | apply qq | apply qm | refine qp ?_ GW512.out _ | refine qp ?_ GW518.out _) | exact HK.out))) : w.heap.size ≤ gb524) : w0.heap.size ≤ gb524)); replace HK := qa.mk (qe.trans (by repeat (first | (with_reducible first | exact HK.out | apply qe.set_ | apply ql | apply qq | apply qm | refine qp ?_ GW512.out _ | refine qp ?_ GW518.out _) | exact HK.out)) (qe.of_below hb g none) (.inl rfl)); have NB512_524 := qa.mk ((by rw [hg]; exact Nat.ne_of_lt (qR (bk_ BK512.out)) : gb512 ≠ gb524)); have NB524_512 := qa.mk ((by rw [hg]; exact Nat.ne_of_gt (qR (bk_ BK512.out)) : gb524 ≠ gb512)); replace BK512 := bb_ BK512 hb; have NB518_524 := qa.mk ((by rw [hg]; exact Nat.ne_of_lt (qR (bk_ BK518.out)) : gb518 ≠ gb524)); have NB524_518 := qa.mk ((by rw [hg]; exact Nat.ne_of_gt (qR (bk_ BK518.out)) : gb524 ≠ gb518)); replace BK518 := bb_ BK518 hb; have NB1_524 := qa.mk ((by rw [hg]; exact Nat.ne_of_lt (IsS4.lt (show IsS4 w0 _ g x2000_3 from by repeat (first | (with_reducible first | exact HI1.out | apply IsS4.alloc | apply IsS4.drewN | apply IsS4.drew | apply IsS4.zm | refine IsS4.far ?_ NB1_512.out _ | refine IsS4.far ?_ NB1_518.out _) | exact HI1.out))) : g ≠ gb524)); have NB524_1 := qa.mk ((by rw [hg]; exact Nat.ne_of_gt (IsS4.lt (show IsS4 w0 _ g x2000_3 from by repeat (first | (with_reducible first | exact HI1.out | apply IsS4.alloc | apply IsS4.drewN | apply IsS4.drew | apply IsS4.zm | refine IsS4.far ?_ NB1_512.out _ | refine IsS4.far ?_ NB1_518.out _) | exact HI1.out))) : gb524 ≠ g)); replace HI1 := qa.mk (IsS4.below (by repeat (first | (with_reducible first | exact HI1.out | apply IsS4.alloc | apply IsS4.drewN | apply IsS4.drew | apply IsS4.zm | refine IsS4.far ?_ NB1_512.out _ | refine IsS4.far ?_ NB1_518.out _) | exact HI1.out)) hb); clear hb hbox hg; have hnb29 := NB524_512.out; have hnc29 := NB512_524.out; have hnb30 := NB524_518.out; have hnc30 := NB518_524.out; have hnb31 := NB524_1.out; have hnc31 := NB1_524.out; have hcz32_0 : w28.cell? ⟨gb524, 0, none⟩ = some (.int .i64 0) := (qc BK524.out 0).trans rfl; have hcz32_1 : w28.cell? ⟨gb524, 1, none⟩ = some (.int .i64 0) := (qc BK524.out 1).trans rfl; have hfz32_0 := qg BK524.out 0; have hfz32_1 := qg BK524.out 1) | ((with_reducible refine ju (t := 36) (p := 9) rfl ?_); refine jl (t := 36) (p := 9) (v := ?vo_w33) (w1 := ((w28.setCell ⟨gb524, 0, none⟩ (.int .i64 ((qb y519 x30_3).f0))).setCell ⟨gb524, 1, none⟩ (.int .i64 ((qb y519 x30_3).f1)))) ?hg ?ho ?hn ?hr ?_; (case ho => rfl); (case hg => rfl); (case hn => rfl); (case hr => first | (go_simp; done) | (go_simp; rfl)); intro w33 hw; replace HR516 : qa (Kd.C k36 w33 (some ad511) y513.length y513) := ⟨(by rw [hw]; exact ((by skip; exact (show ∀ W_ : World, Kd.C k36 W_ (some ad511) (l0.take (x12_1 : Int).toNat).length (l0.take (x12_1 : Int).toNat) → Kd.C k36 W_ (some ad511) y513.length y513 from fun W_ h_ => by rw [Ny513.out]; exact h_) _ (Kd.jx (m := (x12_1 : Int).toNat) (Kd.jA HR0.out (show qe w ((w28.setCell ⟨gb524, 0, none⟩ (.int .i64 ((qb y519 x30_3).f0))).setCell ⟨gb524, 1, none⟩ (.int .i64 ((qb y519 x30_3).f1))) g none from (by repeat (first | (with_reducible first | exact HK.out | apply qe.set_ | apply ql | apply qq | apply qm | refine qp ?_ GW512.out _ | refine qp ?_ GW518.out _ | refine qp ?_ GW524.out _) | exact HK.out)))) KL12.out))))⟩; replace HR522 : qa (Kd.C k36 w33 (some ad511) y519.length y519) := ⟨(by rw [hw]; exact ((by skip; exact (show ∀ W_ : World, Kd.C k36 W_ (some ad511) (l0.take (x21_2 : Int).toNat).length (l0.take (x21_2 : Int).toNat) → Kd.C k36 W_ (some ad511) y519.length y519 from fun W_ h_ => by rw [Ny519.out]; exact h_) _ (Kd.jx (m := (x21_2 : Int).toNat) (Kd.jA HR0.out (show qe w ((w28.setCell ⟨gb524, 0, none⟩ (.int .i64 ((qb y519 x30_3).f0))).setCell ⟨gb524, 1, none⟩ (.int .i64 ((qb y519 x30_3).f1))) g none from (by repeat (first | (with_reducible first | exact HK.out | apply qe.set_ | apply ql | apply qq | apply qm | refine qp ?_ GW512.out _ | refine qp ?_ GW518.out _ | refine qp ?_ GW524.out _) | exact HK.out)))) KL23.out))))⟩; replace BK512 : qa (w33.heap[gb512]? = some (.cells #[.int .i64 ((qb l0 x12_1).f0), .int .i64 ((qb l0 x12_1).f1)] 36 (0, 0))) := ⟨(by rw [hw]; exact (bf2_ BK512 NB512_524))⟩; replace BK518 : qa (w33.heap[gb518]? = some (.cells #[.int .i64 ((qb y513 x21_2).f0), .int .i64 ((qb y513 x21_2).f1)] 36 (0, 0))) := ⟨(by rw [hw]; exact (bf2_ BK518 NB518_524))⟩; replace BK524 : qa (w33.heap[gb524]? = some (.cells #[.int .i64 ((qb y519 x30_3).f0), .int .i64 ((qb y519 x30_3).f1)] 36 (0, 0))) := ⟨(by rw [hw]; exact (by (with_reducible repeat (first | refine qu ?_ _ | refine qx ?_ | refine qt ?_ _)); refine zo (cs := #[.int .i64 ((qb y519 x30_3).f0), .int .i64 0]) ?_ 1 _ rfl; (with_reducible repeat (first | refine qu ?_ _ | refine qx ?_ | refine qt ?_ _)); refine zo (cs := #[.int .i64 0, .int .i64 0]) ?_ 0 _ rfl; (with_reducible repeat (first | refine qu ?_ _ | refine qx ?_ | refine qt ?_ _)); exact BK524.out))⟩; replace HK : qa (qe w w33 g none) := ⟨(by rw [hw]; exact (by repeat (first | (with_reducible first | exact HK.out | apply qe.set_ | apply ql | apply qq | apply qm | refine qp ?_ GW512.out _ | refine qp ?_ GW518.out _ | refine qp ?_ GW524.out _) | exact HK.out)))⟩; replace HB : qa (Below w0.heap.size w0 w33) := ⟨(by rw [hw]; exact (by repeat (first | (with_reducible first | exact HB.out | apply qk | apply qf | apply qj | refine qd ?_ (IsS4.ge HI1.out) | refine qd ?_ GE512.out | refine qd ?_ GE518.out | refine qd ?_ GE524.out) | exact HB.out)))⟩; replace HI1 : qa (IsS4 w0 w33 g x2000_3) := ⟨(by rw [hw]; exact (by repeat (first | (with_reducible first | exact HI1.out | apply IsS4.alloc | apply IsS4.drewN | apply IsS4.drew | apply IsS4.zm | refine IsS4.far ?_ NB1_512.out _ | refine IsS4.far ?_ NB1_518.out _ | refine IsS4.far ?_ NB1_524.out _) | exact HI1.out)))⟩; clear hw; have hnb34 := NB512_518.out; have hnc34 := NB518_512.out; have hnb35 := NB512_1.out; have hnc35 := NB1_512.out; have hcz36_0 : w33.cell? ⟨gb512, 0, none⟩ = some (.int .i64 ((qb l0 x12_1).f0)) := (qc BK512.out 0).trans rfl; have hcz36_1 : w33.cell? ⟨gb512, 1, none⟩ = some (.int .i64 ((qb l0 x12_1).f1)) := (qc BK512.out 1).trans rfl; have hfz36_0 := qg BK512.out 0; have hfz36_1 := qg BK512.out 1; have hnb37 := NB518_1.out; have hnc37 := NB1_518.out; have hcz38_0 : w33.cell? ⟨gb518, 0, none⟩ = some (.int .i64 ((qb y513 x21_2).f0)) := (qc BK518.out 0).trans rfl; have hcz38_1 : w33.cell? ⟨gb518, 1, none⟩ = some (.int .i64 ((qb y513 x21_2).f1)) := (qc BK518.out 1).trans rfl; have hfz38_0 := qg BK518.out 0; have hfz38_1 := qg BK518.out 1; have hcz39_0 : w33.cell? ⟨gb524, 0, none⟩ = some (.int .i64 ((qb y519 x30_3).f0)) := (qc BK524.out 0).trans rfl; have hcz39_1 : w33.cell? ⟨gb524, 1, none⟩ = some (.int .i64 ((qb y519 x30_3).f1)) := (qc BK524.out 1).trans rfl; have hfz39_0 := qg BK524.out 0; have hfz39_1 := qg BK524.out 1) | ((with_reducible refine gate_via (s := 34) rfl ?_); refine goesD_ (some 38) rfl rfl (f := 53) Try.func53 (by kernel_rfl) rfl #[.agg #[.int .i64 ((qb l0 x12_1).f0), .int .i64 ((qb l0 x12_1).f1)], .agg #[.int .i64 ((qb y513 x21_2).f0), .int .i64 ((qb y513 x21_2).f1)], .agg #[.int .i64 ((qb y519 x30_3).f0), .int .i64 ((qb y519 x30_3).f1)]] #[.pointer (some ⟨g, 0, none⟩)] #[.agg #[.int .i64 ((qb l0 x12_1).f0), .int .i64 ((qb l0 x12_1).f1)], .agg #[.int .i64 ((qb y513 x21_2).f0), .int .i64 ((qb y513 x21_2).f1)], .agg #[.int .i64 ((qb y519 x30_3).f0), .int .i64 ((qb y519 x30_3).f1)], .pointer (some ⟨g, 0, none⟩)] rfl rfl rfl (by (try simp only [List.map_toArray, List.map_cons, List.map_nil]); first | done | rfl) ?_; (with_reducible refine (jZ.calls ((qb l0 x12_1).f0) ((qb l0 x12_1).f1) ((qb y513 x21_2).f0) ((qb y513 x21_2).f1) ((qb y519 x30_3).f0) ((qb y519 x30_3).f1) g x2000_3 t525 w0 _ ?side1 ?side2 A27.out).mono ?_); (case side1 => repeat (first | (with_reducible first | exact HI1.out | apply IsS4.alloc | apply IsS4.drewN | apply IsS4.drew | apply IsS4.zm | refine IsS4.far ?_ NB1_512.out _ | refine IsS4.far ?_ NB1_518.out _ | refine IsS4.far ?_ NB1_524.out _) | exact HI1.out)); (case side2 => repeat (first | (with_reducible first | exact HB.out | apply qk | apply qf | apply qj | refine qd ?_ (IsS4.ge HI1.out) | refine qd ?_ GE512.out | refine qd ?_ GE518.out | refine qd ?_ GE524.out) | exact HB.out)); rintro e w40 ⟨rfl, hi, hb, hk⟩; refine ⟨_, rfl, ?_⟩; replace BK512 := qa.mk (qe.blk hk (g' := gb512) (o := .cells #[.int .i64 ((qb l0 x12_1).f0), .int .i64 ((qb l0 x12_1).f1)] 36 (0, 0)) (bk_ BK512.out) NB512_1.out (by simp)); replace BK518 := qa.mk (qe.blk hk (g' := gb518) (o := .cells #[.int .i64 ((qb y513 x21_2).f0), .int .i64 ((qb y513 x21_2).f1)] 36 (0, 0)) (bk_ BK518.out) NB518_1.out (by simp)); replace BK524 := qa.mk (qe.blk hk (g' := gb524) (o := .cells #[.int .i64 ((qb y519 x30_3).f0), .int .i64 ((qb y519 x30_3).f1)] 36 (0, 0)) (bk_ BK524.out) NB524_1.out (by simp)); replace HB := qa.mk (hb); replace HI1 := qa.mk (hi); replace HR516 := qa.mk ((show Kd.C k36 w40 (some ad511) y513.length y513 from by rw [Ny513.out]; exact Kd.jx (m := (x12_1 : Int).toNat) (Kd.jA HR0.out (show qe w w40 g none from (qe.trans (by repeat (first | (with_reducible first | exact HK.out | apply qe.set_ | apply ql | apply qq | apply qm | refine qp ?_ GW512.out _ | refine qp ?_ GW518.out _ | refine qp ?_ GW524.out _) | exact HK.out)) hk (.inl rfl)))) KL12.out)); replace HR522 := qa.mk ((show Kd.C k36 w40 (some ad511) y519.length y519 from by rw [Ny519.out]; exact Kd.jx (m := (x21_2 : Int).toNat) (Kd.jA HR0.out (show qe w w40 g none from (qe.trans (by repeat (first | (with_reducible first | exact HK.out | apply qe.set_ | apply ql | apply qq | apply qm | refine qp ?_ GW512.out _ | refine qp ?_ GW518.out _ | refine qp ?_ GW524.out _) | exact HK.out)) hk (.inl rfl)))) KL23.out)); replace HK := qa.mk (qe.trans (by repeat (first | (with_reducible first | exact HK.out | apply qe.set_ | apply ql | apply qq | apply qm | refine qp ?_ GW512.out _ | refine qp ?_ GW518.out _ | refine qp ?_ GW524.out _) | exact HK.out)) hk (.inl rfl)); (try clear hb); (try clear hk); (try clear hi)))
                  go_roundg k3
                  case measure => have := HK1.out; have := HK2.out; have := HK3.out; omega
                  case rel => exact ⟨(wrap64 (x30_3 + 1)), (t525), (by first | rfl | (simp; done) | (simp [*]; done)), H', ⟨by have := HK1.out; have := HK2.out; have := HK3.out; omega⟩, ⟨bk_ BK512.out⟩, ⟨bk_ BK518.out⟩, ⟨by repeat (first | (with_reducible exact HR516.out) | (with_reducible refine Kd.qZ ?_ _) | (with_reducible refine Kd.qY ?_ _) | (with_reducible refine Kd.zi ?_) | exact HR516.out)⟩, ⟨by repeat (first | (with_reducible exact HR522.out) | (with_reducible refine Kd.qZ ?_ _) | (with_reducible refine Kd.qY ?_ _) | (with_reducible refine Kd.zi ?_) | exact HR522.out)⟩, ⟨by repeat (first | (with_reducible first | exact HI1.out | apply IsS4.alloc | apply IsS4.drewN | apply IsS4.drew | apply IsS4.zm | refine IsS4.far ?_ NB1_512.out _ | refine IsS4.far ?_ NB1_518.out _ | refine IsS4.far ?_ NB1_524.out _) | exact HI1.out)⟩, ⟨by repeat (first | (with_reducible first | exact HK.out | apply qe.set_ | apply ql | apply qq | apply qm | refine qp ?_ GW512.out _ | refine qp ?_ GW518.out _ | refine qp ?_ GW524.out _) | exact HK.out)⟩, ⟨by repeat (first | (with_reducible first | exact HB.out | apply qk | apply qf | apply qj | refine qd ?_ (IsS4.ge HI1.out) | refine qd ?_ GE512.out | refine qd ?_ GE518.out | refine qd ?_ GE524.out) | exact HB.out)⟩⟩
                 ·rw [if_neg c26] at H
                  exact absurd H (by simp)
                ·rw [if_neg c25] at H
                 exact absurd H (by simp)
               ·rw [if_neg c24] at H
                have c24b0 : decide (x30_3 < (y519.length : Int)) = false := decide_eq_false c24; clear c24; have H' := qa.mk H; clear H; go_wp2
                go_roundg k3
                case measure => have := HK1.out; have := HK2.out; have := HK3.out; omega
                case rel => exact ⟨(wrap64 (x21_2 + 1)), (x2000_3), (by first | rfl | (simp; done) | (simp [*]; done)), H', ⟨by have := HK1.out; have := HK2.out; have := HK3.out; omega⟩, ⟨bk_ BK512.out⟩, ⟨by repeat (first | (with_reducible exact HR516.out) | (with_reducible refine Kd.qZ ?_ _) | (with_reducible refine Kd.qY ?_ _) | (with_reducible refine Kd.zi ?_) | exact HR516.out)⟩, ⟨by repeat (first | (with_reducible first | exact HI1.out | apply IsS4.alloc | apply IsS4.drewN | apply IsS4.drew | apply IsS4.zm | refine IsS4.far ?_ NB1_512.out _ | refine IsS4.far ?_ NB1_518.out _) | exact HI1.out)⟩, ⟨by repeat (first | (with_reducible first | exact HK.out | apply qe.set_ | apply ql | apply qq | apply qm | refine qp ?_ GW512.out _ | refine qp ?_ GW518.out _) | exact HK.out)⟩, ⟨by repeat (first | (with_reducible first | exact HB.out | apply qk | apply qf | apply qj | refine qd ?_ (IsS4.ge HI1.out) | refine qd ?_ GE512.out | refine qd ?_ GE518.out) | exact HB.out)⟩⟩
            ·rw [if_neg c17] at H
             exact absurd H (by simp)
           ·rw [if_neg c15] at H
            exact absurd H (by simp)
          ·rw [if_neg c14] at H
           exact absurd H (by simp)
         ·rw [if_neg c13] at H
          have c13b0 : decide (x21_2 < (y513.length : Int)) = false := decide_eq_false c13; clear c13; have H' := qa.mk H; clear H; go_wp2
          go_roundg k2
          case measure => have := HK1.out; have := HK2.out; omega
          case rel => exact ⟨(wrap64 (x12_1 + 1)), (x2000_2), (by first | rfl | (simp; done) | (simp [*]; done)), H', ⟨by have := HK1.out; have := HK2.out; omega⟩, ⟨by repeat (first | (with_reducible first | exact HI1.out | apply IsS4.alloc | apply IsS4.drewN | apply IsS4.drew | apply IsS4.zm | refine IsS4.far ?_ NB1_512.out _) | exact HI1.out)⟩, ⟨by repeat (first | (with_reducible first | exact HK.out | apply qe.set_ | apply ql | apply qq | apply qm | refine qp ?_ GW512.out _) | exact HK.out)⟩, ⟨by repeat (first | (with_reducible first | exact HB.out | apply qk | apply qf | apply qj | refine qd ?_ (IsS4.ge HI1.out) | refine qd ?_ GE512.out) | exact HB.out)⟩⟩
      ·rw [if_neg c7] at H
       exact absurd H (by simp)
     ·rw [if_neg c5] at H
      exact absurd H (by simp)
    ·rw [if_neg c4] at H
     exact absurd H (by simp)
   ·rw [if_neg c3] at H
    have c3b0 : decide (x12_1 < (l0.length : Int)) = false := decide_eq_false c3; clear c3; obtain rfl := Option.some.inj H; go_wp2; (first | go_end0 | ((try simp only [Exit.inBlock, Exit.then]); refine bodyPost_ret (results_none rfl _ _ _) rfl ?_)); exact ⟨by first | rfl | (simp [qw, qv] <;> rfl) | (simp [*, qw, qv] <;> rfl), by repeat (first | (with_reducible first | exact HI1.out | apply IsS4.alloc | apply IsS4.drewN | apply IsS4.drew | apply IsS4.zm) | exact HI1.out), by repeat (first | (with_reducible first | exact HB.out | apply qk | apply qf | apply qj | refine qd ?_ (IsS4.ge HI1.out)) | exact HB.out), by repeat (first | (with_reducible first | exact HK.out | apply qe.set_ | apply ql | apply qq | apply qm) | exact HK.out)⟩
def jy.f (k : Nat) (l0 : List (S36)) : Option (Bool × Bool) := if (l0.length : Int) > 50 then (some (false, false)) else ((jr.f k l0).bind fun t526 => (if t526 = true then ((xc.f l0).bind fun t527 => ((qW.f t527).bind fun t530 => (if (t530.length : Int) = (l0.length : Int) then ((qK.f k l0 false).bind fun t534 => (some (t534, true))) else (some (false, false))))) else (some (false, false))))
theorem jy.mono : ∀ a0 k, LeO (jy.f k a0) (jy.f (k + 1) a0) := by
 intro a0 k; unfold jy.f
 repeat' first
   | (with_reducible exact jr.mono _ _)
   | (with_reducible exact qK.mono _ _ _)
   | (with_reducible exact LeO.refl _)
   | (with_reducible exact LeO.none _)
   | (with_reducible refine LeO.ite ?_ ?_)
   | (with_reducible refine LeO.bind ?_ (fun _ => ?_))
set_option maxHeartbeats 8000000 in
set_option maxRecDepth 100000 in
theorem jy.calls (k : Nat) (A0 : Option Addr) (c0 : Nat) (l0 : List (S36)) (r1 : Bool) (r2 : Bool) (w : World) (hr0 : Kd.C k36 w A0 l0.length l0) (hc0 : l0.length ≤ c0) (h : jy.f k l0 = some (r1, r2)) :
  Calls Try.prog 22 #[.slice A0 l0.length c0] w fun e w' => e = .returned (.tuple #[.bool r1, .bool r2]) ∧ Below w.heap.size w w' := by
 have HR0 := qa.mk hr0; have HC0 := qa.mk hc0; clear hr0 hc0; have HB := qa.mk (Below.refl w.heap.size w); (have H : (if (l0.length : Int) > 50 then (some (false, false)) else ((jr.f k l0).bind fun t526 => (if t526 = true then ((xc.f l0).bind fun t527 => ((qW.f t527).bind fun t530 => (if (t530.length : Int) = (l0.length : Int) then ((qK.f k l0 false).bind fun t534 => (some (t534, true))) else (some (false, false))))) else (some (false, false))))) = some (r1, r2) := h); clear h; by_cases c2 : (l0.length : Int) > 50
 ·rw [if_pos c2] at H
  have c2b0 : decide (50 < (l0.length : Int)) = true := decide_eq_true c2; have c2b1 : decide (50 < l0.length) = true := decide_eq_true (by omega); clear c2; simp only [Option.some.injEq, Prod.mk.injEq] at H; obtain ⟨rfl, rfl⟩ := H; go_enter Try.func22, Try.ntmps22; go_wp2; go_ret2; exact ⟨by first | rfl | (simp [qw, qv] <;> rfl) | (simp [*, qw, qv] <;> rfl), hb_⟩
 ·rw [if_neg c2] at H
  have c2b0 : decide (50 < (l0.length : Int)) = false := decide_eq_false c2; have c2b1 : decide (50 < l0.length) = false := decide_eq_false (by omega); clear c2; replace H := Option.bind_eq_some_iff.mp H; obtain ⟨t526, A30, H⟩ := H; (try dsimp -simprocs only at H); have A3 := qa.mk A30; clear A30; by_cases c4 : t526 = true
  ·subst c4
   rw [if_pos rfl] at H; replace H := Option.bind_eq_some_iff.mp H; obtain ⟨t527, A50, H⟩ := H; (try dsimp -simprocs only at H); have A5 := qa.mk A50; clear A50; replace H := Option.bind_eq_some_iff.mp H; obtain ⟨t530, A60, H⟩ := H; (try dsimp -simprocs only at H); have A6 := qa.mk A60; clear A60; by_cases c7 : (t530.length : Int) = (l0.length : Int)
   ·rw [if_pos c7] at H
    have c7b0 : ((t530.length : Int) == (l0.length : Int)) = true := beq_iff_eq.mpr c7; have c7b1 : ((t530.length : Int) != (l0.length : Int)) = false := bne_eq_false_iff_eq.mpr c7; (have c7b2 : (t530.length == l0.length) = true := by first | simpa using c7 | (simp at c7 ⊢; omega)); clear c7; replace H := Option.bind_eq_some_iff.mp H; obtain ⟨t534, A80, H⟩ := H; (try dsimp -simprocs only at H); have A8 := qa.mk A80; clear A80; simp only [Option.some.injEq, Prod.mk.injEq] at H; obtain ⟨rfl, rfl⟩ := H; go_enter Try.func22, Try.ntmps22
    go_wp2_with (first | (go_at_call 50; (with_reducible refine (jr.calls k _ _ l0 true _ ?side1 ?side2 A3.out).mono ?_); (case side1 => repeat (first | exact HR0.out | (with_reducible refine Kd.qZ ?_ _) | (with_reducible refine Kd.qY ?_ _) | (with_reducible refine Kd.zi ?_))); (case side2 => exact HC0.out); rintro e w9 ⟨rfl, hb⟩; replace HB := qa.mk (qh (hb_) hb); (try clear hb)) | (go_at_call 52; (with_reducible refine (xc.calls _ _ l0 t527 _ ?side1 ?side2 A5.out).mono ?_); (case side1 => repeat (first | exact (Kd.zV HR0.out HB.out) | (with_reducible refine Kd.qZ ?_ _) | (with_reducible refine Kd.qY ?_ _) | (with_reducible refine Kd.zi ?_))); (case side2 => exact HC0.out); rintro e w10 ⟨v528, rfl, ho0, hb⟩; have HO529 := qa.mk (Kd.zK ho0 (qn (hb_))); replace HB := qa.mk (qh (hb_) hb); (try clear hb); (try clear ho0); obtain ⟨Ao11, co11, eo11⟩ := Kd.zO HO529.out; subst eo11) | (go_at_call 51; (with_reducible refine (qW.calls (fun k_ => some k_ = (.slice Ao11 t527.length co11 : Value).ownBlock) (.slice Ao11 t527.length co11) t527 t530 w _ ?side1 ?side2 A6.out).mono ?_); (case side1 => repeat (first | (with_reducible first | exact HB.out | apply qk | apply qf | apply qj) | exact HB.out)); (case side2 => exact Kd.R_tight rfl HO529.out); rintro e w12 ⟨v531, rfl, ho0, hb, hkp⟩; have HO532 := qa.mk (Kd.qz (ok' := fun k_ => True) ho0 (fun k_ hk_ => trivial)); replace HB := qa.mk (hb); clear HO529; (try clear hb); (try clear hkp); (try clear ho0); obtain ⟨Ao13, co13, eo13⟩ := Kd.zO HO532.out; subst eo13) | ((with_reducible refine qN (N := 4) rfl ?_); (try (refine jG (by rfl) ?_; dsimp only)); refine qO ?hg (N := 4) ?hd (cs := #[.bool false]) (t := 4) ?hr ?_; (case hd => rfl); (case hg => rfl); (case hr => first | (go_simp; done) | (go_simp; rfl)); intro gb533 hg w14 hbox hb; replace HO532 := qa.mk (Kd.qS (rk_ HO532.out) hb); have HI533 := qa.mk ((show IsS4 w w14 gb533 false from ⟨hbox, (by rw [hg]; exact (qn (hb_)) : w.heap.size ≤ gb533)⟩)); replace HB := qa.mk (qh (hb_) hb); clear hb hbox hg; obtain ⟨HGz15, hgz15⟩ := HI533.out; have hcz15_0 := cellS4_0 HGz15; have hfz15_0 := qg HGz15 0; clear HGz15 hgz15) | ((with_reducible refine qo (f := 37) rfl ?_); refine qP (some 24) rfl rfl Try.func37 (by kernel_rfl) rfl #[.slice A0 l0.length c0, .func (.func 53) #[] #[.pointer (some ⟨gb533, 0, none⟩)]] rfl ga_ ?_; (with_reducible refine (qK.calls k _ _ l0 gb533 false t534 w _ ?side1 ?side2 ?side3 ?side4 A8.out).mono ?_); (case side1 => repeat (first | (with_reducible first | exact HI533.out | apply IsS4.alloc | apply IsS4.drewN | apply IsS4.drew | apply IsS4.zm) | exact HI533.out)); (case side2 => repeat (first | (with_reducible first | exact HB.out | apply qk | apply qf | apply qj | refine qd ?_ (IsS4.ge HI533.out)) | exact HB.out)); (case side3 => exact Kd.C_foot_came k36_heap HR0.out (by repeat (first | (with_reducible first | exact HB.out | apply qk | apply qf | apply qj | refine qd ?_ (IsS4.ge HI533.out)) | exact HB.out)) (IsS4.ge HI533.out)); (case side4 => exact HC0.out); rintro e w16 ⟨rfl, hi, hb, hk⟩; refine ⟨_, rfl, ?_⟩; replace HO532 := qa.mk (Kd.qz (Kd.xC (IsS4.apart (show IsS4 w _ gb533 false from by repeat (first | (with_reducible first | exact HI533.out | apply IsS4.alloc | apply IsS4.drewN | apply IsS4.drew | apply IsS4.zm) | exact HI533.out)) (by (with_reducible repeat (first | apply Kd.qF | apply Kd.qE | apply Kd.qJ)); exact (Kd.qz (Kd.ze (p := ⟨gb533, 0, none⟩) (IsS4.apart HI533.out HO532.out (by decide)) (fun _ hk => hk.2) (.bool false)) (fun _ h_ => h_.1))) (by decide)) hk (fun _ h => h.2)) (fun _ h => h.1)); replace HB := qa.mk (hb); replace HI533 := qa.mk (hi); (try clear hb); (try clear hk); (try clear hi); obtain ⟨HGz17, hgz17⟩ := HI533.out; have hcz17_0 := cellS4_0 HGz17; have hfz17_0 := qg HGz17 0; clear HGz17 hgz17))
    go_ret2; exact ⟨by first | rfl | (simp [qw, qv] <;> rfl) | (simp [*, qw, qv] <;> rfl), by repeat (first | (with_reducible first | exact HB.out | apply qk | apply qf | apply qj | refine qd ?_ (IsS4.ge HI533.out)) | exact HB.out)⟩
   ·rw [if_neg c7] at H
    have c7b0 : ((t530.length : Int) == (l0.length : Int)) = false := beq_eq_false_iff_ne.mpr c7; have c7b1 : ((t530.length : Int) != (l0.length : Int)) = true := bne_iff_ne.mpr c7; (have c7b2 : (t530.length == l0.length) = false := by first | simpa using c7 | (simp at c7 ⊢; omega)); simp only [Option.some.injEq, Prod.mk.injEq] at H; obtain ⟨rfl, rfl⟩ := H; go_enter Try.func22, Try.ntmps22
    go_wp2_with (first | (go_at_call 50; (with_reducible refine (jr.calls k _ _ l0 true _ ?side1 ?side2 A3.out).mono ?_); (case side1 => repeat (first | exact HR0.out | (with_reducible refine Kd.qZ ?_ _) | (with_reducible refine Kd.qY ?_ _) | (with_reducible refine Kd.zi ?_))); (case side2 => exact HC0.out); rintro e w18 ⟨rfl, hb⟩; replace HB := qa.mk (qh (hb_) hb); (try clear hb)) | (go_at_call 52; (with_reducible refine (xc.calls _ _ l0 t527 _ ?side1 ?side2 A5.out).mono ?_); (case side1 => repeat (first | exact (Kd.zV HR0.out HB.out) | (with_reducible refine Kd.qZ ?_ _) | (with_reducible refine Kd.qY ?_ _) | (with_reducible refine Kd.zi ?_))); (case side2 => exact HC0.out); rintro e w19 ⟨v528, rfl, ho0, hb⟩; have HO529 := qa.mk (Kd.zK ho0 (qn (hb_))); replace HB := qa.mk (qh (hb_) hb); (try clear hb); (try clear ho0); obtain ⟨Ao20, co20, eo20⟩ := Kd.zO HO529.out; subst eo20) | (go_at_call 51; (with_reducible refine (qW.calls (fun k_ => some k_ = (.slice Ao20 t527.length co20 : Value).ownBlock) (.slice Ao20 t527.length co20) t527 t530 w _ ?side1 ?side2 A6.out).mono ?_); (case side1 => repeat (first | (with_reducible first | exact HB.out | apply qk | apply qf | apply qj) | exact HB.out)); (case side2 => exact Kd.R_tight rfl HO529.out); rintro e w21 ⟨v531, rfl, ho0, hb, hkp⟩; have HO532 := qa.mk (Kd.qz (ok' := fun k_ => True) ho0 (fun k_ hk_ => trivial)); replace HB := qa.mk (hb); clear HO529; (try clear hb); (try clear hkp); (try clear ho0); obtain ⟨Ao22, co22, eo22⟩ := Kd.zO HO532.out; subst eo22))
    go_ret2; exact ⟨by first | rfl | (simp [qw, qv] <;> rfl) | (simp [*, qw, qv] <;> rfl), hb_⟩
  ·replace c4 := Bool.eq_false_iff.mpr c4
   subst c4; rw [if_neg Bool.false_ne_true] at H; simp only [Option.some.injEq, Prod.mk.injEq] at H; obtain ⟨rfl, rfl⟩ := H; go_enter Try.func22, Try.ntmps22; (go_wp2_with (first | (go_at_call 50; (with_reducible refine (jr.calls k _ _ l0 false _ ?side1 ?side2 A3.out).mono ?_); (case side1 => repeat (first | exact HR0.out | (with_reducible refine Kd.qZ ?_ _) | (with_reducible refine Kd.qY ?_ _) | (with_reducible refine Kd.zi ?_))); (case side2 => exact HC0.out); rintro e w23 ⟨rfl, hb⟩; replace HB := qa.mk (qh (hb_) hb); (try clear hb)))); go_ret2; exact ⟨by first | rfl | (simp [qw, qv] <;> rfl) | (simp [*, qw, qv] <;> rfl), hb_⟩
def spec_pgIs.f (a0_0 : Int) (a0_1 : Int) : Option (Bool) := (jC.f a0_0 (-40) 40).bind fun t536 => (if t536 = true then ((jC.f a0_1 (-40) 40).bind fun t537 => (some t537)) else (some false))
set_option maxHeartbeats 8000000 in
set_option maxRecDepth 100000 in
theorem spec_pgIs.calls (a0_0 : Int) (a0_1 : Int) (r : Bool) (w : World) (h : spec_pgIs.f a0_0 a0_1 = some r) :
  Calls Try.prog 54 #[.agg #[.int .i64 a0_0, .int .i64 a0_1]] w fun e w' => e = .returned (.bool r) ∧ Below w.heap.size w w' := by
 have hu36 := Try.underlying36; have HB := qa.mk (Below.refl w.heap.size w); (have H : ((jC.f a0_0 (-40) 40).bind fun t536 => (if t536 = true then ((jC.f a0_1 (-40) 40).bind fun t537 => (some t537)) else (some false))) = some r := h); clear h; replace H := Option.bind_eq_some_iff.mp H; obtain ⟨t536, A20, H⟩ := H; (try dsimp -simprocs only at H); have A2 := qa.mk A20; clear A20; by_cases c3 : t536 = true
 ·subst c3
  rw [if_pos rfl] at H; replace H := Option.bind_eq_some_iff.mp H; obtain ⟨t537, A40, H⟩ := H; replace H : (some t537) = some r := H; have A4 := qa.mk A40; clear A40; obtain rfl := Option.some.inj H; go_enter Try.func54, Try.ntmps54
  go_wp2_with (first | ((with_reducible refine qN (N := 1) rfl ?_); refine qO ?hg (N := 1) ?hd (cs := #[.int .i64 a0_0, .int .i64 a0_1]) (t := 36) ?hr ?_; (case hd => rfl); (case hg => rfl); (case hr => first | (go_simp; done) | (go_simp; rfl)); intro gb535 hg w5 hbox hb; have BK535 := qa.mk (hbox); have GW535 := qa.mk ((by rw [hg]; exact (qn (hb_)) : w.heap.size ≤ gb535)); have GE535 := qa.mk ((by rw [hg]; exact (qn (hb_)) : w.heap.size ≤ gb535)); replace HB := qa.mk (qh (hb_) hb); clear hb hbox hg; have hcz6_0 : w5.cell? ⟨gb535, 0, none⟩ = some (.int .i64 a0_0) := (qc BK535.out 0).trans rfl; have hcz6_1 : w5.cell? ⟨gb535, 1, none⟩ = some (.int .i64 a0_1) := (qc BK535.out 1).trans rfl; have hfz6_0 := qg BK535.out 0; have hfz6_1 := qg BK535.out 1) | ((with_reducible refine qo (f := 59) rfl ?_); refine qP (some 5) rfl rfl Try.func59 (by kernel_rfl) rfl #[.int .i64 a0_0, .int .i64 (-40), .int .i64 40] rfl ga_ ?_; (with_reducible refine (jC.calls a0_0 (-40) 40 true _ A2.out).mono ?_); rintro e w' ⟨rfl, ⟨nd, rfl⟩⟩; refine ⟨_, rfl, ?_⟩) | (go_at_call 59; (with_reducible refine (jC.calls a0_1 (-40) 40 t537 _ A4.out).mono ?_); rintro e w' ⟨rfl, ⟨nd, rfl⟩⟩))
  go_ret; exact ⟨by first | rfl | (simp [qw, qv] <;> rfl) | (simp [*, qw, qv] <;> rfl), hbg_⟩
 ·replace c3 := Bool.eq_false_iff.mpr c3
  subst c3; rw [if_neg Bool.false_ne_true] at H; obtain rfl := Option.some.inj H; go_enter Try.func54, Try.ntmps54
  go_wp2_with (first | ((with_reducible refine qN (N := 1) rfl ?_); refine qO ?hg (N := 1) ?hd (cs := #[.int .i64 a0_0, .int .i64 a0_1]) (t := 36) ?hr ?_; (case hd => rfl); (case hg => rfl); (case hr => first | (go_simp; done) | (go_simp; rfl)); intro gb535 hg w7 hbox hb; have BK535 := qa.mk (hbox); have GW535 := qa.mk ((by rw [hg]; exact (qn (hb_)) : w.heap.size ≤ gb535)); have GE535 := qa.mk ((by rw [hg]; exact (qn (hb_)) : w.heap.size ≤ gb535)); replace HB := qa.mk (qh (hb_) hb); clear hb hbox hg; have hcz8_0 : w7.cell? ⟨gb535, 0, none⟩ = some (.int .i64 a0_0) := (qc BK535.out 0).trans rfl; have hcz8_1 : w7.cell? ⟨gb535, 1, none⟩ = some (.int .i64 a0_1) := (qc BK535.out 1).trans rfl; have hfz8_0 := qg BK535.out 0; have hfz8_1 := qg BK535.out 1) | ((with_reducible refine qo (f := 59) rfl ?_); refine qP (some 5) rfl rfl Try.func59 (by kernel_rfl) rfl #[.int .i64 a0_0, .int .i64 (-40), .int .i64 40] rfl ga_ ?_; (with_reducible refine (jC.calls a0_0 (-40) 40 false _ A2.out).mono ?_); rintro e w' ⟨rfl, ⟨nd, rfl⟩⟩; refine ⟨_, rfl, ?_⟩))
  go_ret; exact ⟨by first | rfl | (simp [qw, qv] <;> rfl) | (simp [*, qw, qv] <;> rfl), hbg_⟩
section
attribute [local go_sem high] eqA36
mutual
def qI.l0 : Nat → List (S36) → Bool → List (S36) → Int → Int → Option (Bool × Bool)
 | 0, _, _, _, _, _ => none
 | k + 1, x0, x4, x14, x15, x16 => if x16 < x15 then (if 0 ≤ x16 then (if x16 < (x14.length : Int) then ((spec_pgIs.f ((qb x14 x16).f0) ((qb x14 x16).f1)).bind fun t540 => (if t540 = true then (if x16 ≤ (x0.length : Int) then ((some (x0.take (x16 : Int).toNat : List (S36))).bind fun y541 => (qI.l1 k x0 x4 x14 x15 x16 y541 (y541.length : Int) 0 ((qb x14 x16).f0) ((qb x14 x16).f1))) else (none)) else (some (false, false)))) else (none)) else (none)) else (qI.l2 k x0 x4 x0 (x0.length : Int) 0)
def qI.l1 : Nat → List (S36) → Bool → List (S36) → Int → Int → List (S36) → Int → Int → Int → Int → Option (Bool × Bool)
 | 0, _, _, _, _, _, _, _, _, _, _ => none
 | k + 1, x0, x4, x14, x15, x16, x26, x27, x28, x540000, x540001 => if x28 < x27 then (if 0 ≤ x28 then (if x28 < (x26.length : Int) then (if (x540000 == ((qb x26 x28).f0) && (x540001 == ((qb x26 x28).f1))) = true then (some (false, false)) else (qI.l1 k x0 x4 x14 x15 x16 x26 x27 (wrap64 (x28 + 1)) x540000 x540001)) else (none)) else (none)) else (qI.l0 k x0 x4 x14 x15 (wrap64 (x16 + 1)))
def qI.l2 : Nat → List (S36) → Bool → List (S36) → Int → Int → Option (Bool × Bool)
 | 0, _, _, _, _, _ => none
 | k + 1, x0, x4, x37, x38, x39 => if x39 < x38 then (if 0 ≤ x39 then (if x39 < (x37.length : Int) then (if x4 = true then (qI.l2 k x0 true x37 x38 (wrap64 (x39 + 1))) else (if x39 ≤ (x0.length : Int) then ((zc.f k (x0.take (x39 : Int).toNat) ((qb x37 x39).f0) ((qb x37 x39).f1)).bind fun t553 => (qI.l2 k x0 (!t553) x37 x38 (wrap64 (x39 + 1)))) else (none))) else (none)) else (none)) else (some (x4, true))
end
def qI.f (k : Nat) (l0 : List (S36)) : Option (Bool × Bool) := if (l0.length : Int) > 50 then (some (false, false)) else (qI.l0 k l0 false l0 (l0.length : Int) 0)
theorem qI.mono_l : ∀ k, (∀ y0 y1 y2 y3 y4, LeO (qI.l0 k y0 y1 y2 y3 y4) (qI.l0 (k + 1) y0 y1 y2 y3 y4)) ∧ (∀ y0 y1 y2 y3 y4 y5 y6 y7 y8 y9, LeO (qI.l1 k y0 y1 y2 y3 y4 y5 y6 y7 y8 y9) (qI.l1 (k + 1) y0 y1 y2 y3 y4 y5 y6 y7 y8 y9)) ∧ (∀ y0 y1 y2 y3 y4, LeO (qI.l2 k y0 y1 y2 y3 y4) (qI.l2 (k + 1) y0 y1 y2 y3 y4))
 | 0 => ⟨fun _ _ _ _ _ r h => by simp [qI.l0] at h, fun _ _ _ _ _ _ _ _ _ _ r h => by simp [qI.l1] at h, fun _ _ _ _ _ r h => by simp [qI.l2] at h⟩
 | k + 1 => by
  obtain ⟨ih0, ih1, ih2⟩ := qI.mono_l k
  refine ⟨?_, ?_, ?_⟩
  ·intro y0 y1 y2 y3 y4
   unfold qI.l0
   repeat' first
   | (with_reducible exact ih0 _ _ _ _ _)
   | (with_reducible exact ih1 _ _ _ _ _ _ _ _ _ _)
   | (with_reducible exact ih2 _ _ _ _ _)
   | (with_reducible exact zc.mono _ _ _ _)
   | (with_reducible exact LeO.refl _)
   | (with_reducible exact LeO.none _)
   | (with_reducible refine LeO.ite ?_ ?_)
   | (with_reducible refine LeO.bind ?_ (fun _ => ?_))
  ·intro y0 y1 y2 y3 y4 y5 y6 y7 y8 y9
   unfold qI.l1
   repeat' first
   | (with_reducible exact ih0 _ _ _ _ _)
   | (with_reducible exact ih1 _ _ _ _ _ _ _ _ _ _)
   | (with_reducible exact ih2 _ _ _ _ _)
   | (with_reducible exact zc.mono _ _ _ _)
   | (with_reducible exact LeO.refl _)
   | (with_reducible exact LeO.none _)
   | (with_reducible refine LeO.ite ?_ ?_)
   | (with_reducible refine LeO.bind ?_ (fun _ => ?_))
  ·intro y0 y1 y2 y3 y4
   unfold qI.l2
   repeat' first
   | (with_reducible exact ih0 _ _ _ _ _)
   | (with_reducible exact ih1 _ _ _ _ _ _ _ _ _ _)
   | (with_reducible exact ih2 _ _ _ _ _)
   | (with_reducible exact zc.mono _ _ _ _)
   | (with_reducible exact LeO.refl _)
   | (with_reducible exact LeO.none _)
   | (with_reducible refine LeO.ite ?_ ?_)
   | (with_reducible refine LeO.bind ?_ (fun _ => ?_))
theorem qI.mono : ∀ a0 k, LeO (qI.f k a0) (qI.f (k + 1) a0) := by
 intro a0 k; obtain ⟨ih0, ih1, ih2⟩ := qI.mono_l k; unfold qI.f
 repeat' first
   | (with_reducible exact ih0 _ _ _ _ _)
   | (with_reducible exact ih1 _ _ _ _ _ _ _ _ _ _)
   | (with_reducible exact ih2 _ _ _ _ _)
   | (with_reducible exact zc.mono _ _ _ _)
   | (with_reducible exact LeO.refl _)
   | (with_reducible exact LeO.none _)
   | (with_reducible refine LeO.ite ?_ ?_)
   | (with_reducible refine LeO.bind ?_ (fun _ => ?_))
def qI.T19 : Bool × List (List Nat × List Nat) := (true, [([], []), ([0], [0]), ([1], [1]), ([1], [1]), ([2, 3, 1], [1, 2, 3]), ([1], [1]), ([4, 5, 1, 1], [1, 4, 5]), ([6, 1], [1, 6]), ([1, 7], [1, 7]), ([8, 6, 0, 1, 2, 3, 4, 5, 6, 7, 8], [0, 8])])
def qI.B19 : List Nat := [0, 1, 3, 3, 15, 3, 63, 127, 255, 511]
theorem qI.tab19 : rtab .any (opsOf Try.f23 19) = qI.T19 := by kernel_rfl
theorem qI.bits19 : xu qI.T19.2 qI.B19 = true := by kernel_rfl
set_option maxHeartbeats 8000000 in
set_option maxRecDepth 100000 in
theorem qI.calls (k : Nat) (A0 : Option Addr) (c0 : Nat) (l0 : List (S36)) (r1 : Bool) (r2 : Bool) (w : World) (hr0 : Kd.C k36 w A0 l0.length l0) (hc0 : l0.length ≤ c0) (h : qI.f k l0 = some (r1, r2)) :
  Calls Try.prog 23 #[.slice A0 l0.length c0] w fun e w' => e = .returned (.tuple #[.bool r1, .bool r2]) ∧ Below w.heap.size w w' := by
 have hu36 := Try.underlying36; have HR0 := qa.mk hr0; have HC0 := qa.mk hc0; clear hr0 hc0; have HB := qa.mk (Below.refl w.heap.size w); have H : (if (l0.length : Int) > 50 then (some (false, false)) else (qI.l0 k l0 false l0 (l0.length : Int) 0)) = some (r1, r2) := h; clear h; by_cases c2 : (l0.length : Int) > 50
 ·rw [if_pos c2] at H
  have c2b0 : decide (50 < (l0.length : Int)) = true := decide_eq_true c2; have c2b1 : decide (50 < l0.length) = true := decide_eq_true (by omega); clear c2; simp only [Option.some.injEq, Prod.mk.injEq] at H; obtain ⟨rfl, rfl⟩ := H; go_enter Try.func23, Try.ntmps23; go_wp2; go_ret2; exact ⟨by first | rfl | (simp [qw, qv] <;> rfl) | (simp [*, qw, qv] <;> rfl), hb_⟩
 ·rw [if_neg c2] at H
  have c2b0 : decide (50 < (l0.length : Int)) = false := decide_eq_false c2; have c2b1 : decide (50 < l0.length) = false := decide_eq_false (by omega); clear c2; have H' := qa.mk H; clear H; go_enter Try.func23, Try.ntmps23; go_wp2
  go_loopg [16] k (fun kq v16 w' => ∃ (x16_1 : Int), v16 = .int .i64 x16_1 ∧ qa (qI.l0 kq l0 false l0 (l0.length : Int) x16_1 = some (r1, r2)) ∧ qa (kq ≤ k) ∧ qa (Below w.heap.size w w'))
  case atStart => exact ⟨(0), (by first | rfl | (simp; done) | (simp [*]; done)), H', ⟨Nat.le_refl _⟩, ⟨hb_⟩⟩
  case round =>
   clear H'; (try clear c2; try clear c2b0; try clear c2b1; try clear p2); obtain ⟨x16_1, rfl, HA, HK1, HB⟩ := hrel
   cases gk with
   | zero => exact absurd HA.out (by simp [qI.l0])
   | succ k1 =>
    have H := HA.out; clear HA; simp only [qI.l0] at H; by_cases c3 : x16_1 < (l0.length : Int)
    ·rw [if_pos c3] at H
     have c3b0 : decide (x16_1 < (l0.length : Int)) = true := decide_eq_true c3; clear c3; by_cases c4 : 0 ≤ x16_1
     ·rw [if_pos c4] at H
      have c4b0 : decide (0 ≤ x16_1) = true := decide_eq_true c4; clear c4; by_cases c5 : x16_1 < (l0.length : Int)
      ·rw [if_pos c5] at H
       have c5b0 : decide (x16_1 < (l0.length : Int)) = true := decide_eq_true c5; clear c5; replace H := Option.bind_eq_some_iff.mp H; obtain ⟨t540, A60, H⟩ := H; (try dsimp -simprocs only at H); have A6 := qa.mk A60; clear A60; by_cases c7 : t540 = true
       ·subst c7
        rw [if_pos rfl] at H; have c8b0 := eq_true (odt_ : 0 ≤ x16_1); by_cases c9 : x16_1 ≤ (l0.length : Int)
        ·rw [if_pos c9] at H
         have c9b0 := eq_true c9; have c9b1 : decide (x16_1 ≤ (l0.length : Int)) = true := decide_eq_true c9; clear c9; obtain ⟨y541, hy541⟩ : ∃ y_ : List (S36), y_ = (l0.take (x16_1 : Int).toNat) := ⟨_, rfl⟩; (replace H : (qI.l1 k1 l0 false l0 (l0.length : Int) x16_1 y541 (y541.length : Int) 0 ((qb l0 x16_1).f0) ((qb l0 x16_1).f1)) = some (r1, r2) := by first | (rw [hy541]; with_reducible exact H) | (have H2_ := (Option.bind_some _ _).symm.trans H; rw [hy541]; with_reducible exact H2_) | (have H2_ := (Option.bind_some _ _).symm.trans H; with_reducible exact H2_) | with_reducible exact H | (rw [hy541]; exact H) | exact H); have Ny541 := qa.mk hy541; clear hy541; have H' := qa.mk H; clear H; have p538 : 0 ≤ (x16_1 : Int) := odt_; have q538 : x16_1 < (l0.length : Int) := odt_; obtain ⟨ad538, e538, hx538_0, hx538_1⟩ := zF HR0.out x16_1 p538 q538; cases e538; replace hx538_0 := (HB.out.cell (World.block_lt_of_cell? w _ hx538_0)).trans hx538_0; replace hx538_1 := (HB.out.cell (World.block_lt_of_cell? w _ hx538_1)).trans hx538_1; replace p538 := eq_true p538; replace q538 := eq_true q538
         go_wp2_with (first | ((with_reducible refine qN (N := 6) rfl ?_); refine qO ?hg (N := 6) ?hd (cs := #[.int .i64 0, .int .i64 0]) (t := 36) ?hr ?_; (case hd => rfl); (case hg => rfl); (case hr => first | (go_simp; done) | (go_simp; rfl)); intro gb539 hg w10 hbox hb; have BK539 := qa.mk (hbox); have GW539 := qa.mk ((by rw [hg]; exact (qn (hb_)) : w.heap.size ≤ gb539)); have GE539 := qa.mk ((by rw [hg]; exact (qn (hb_)) : w.heap.size ≤ gb539)); replace HB := qa.mk (qh (hb_) hb); clear hb hbox hg; have hcz11_0 : w10.cell? ⟨gb539, 0, none⟩ = some (.int .i64 0) := (qc BK539.out 0).trans rfl; have hcz11_1 : w10.cell? ⟨gb539, 1, none⟩ = some (.int .i64 0) := (qc BK539.out 1).trans rfl; have hfz11_0 := qg BK539.out 0; have hfz11_1 := qg BK539.out 1) | ((with_reducible refine qo (f := 54) rfl ?_); refine qP (some 22) rfl rfl Try.func54 (by kernel_rfl) rfl #[.agg #[.int .i64 ((qb l0 x16_1).f0), .int .i64 ((qb l0 x16_1).f1)]] rfl ga_ ?_; (with_reducible refine (spec_pgIs.calls ((qb l0 x16_1).f0) ((qb l0 x16_1).f1) true _ A6.out).mono ?_); rintro e w12 ⟨rfl, hb⟩; refine ⟨_, rfl, ?_⟩; replace BK539 := qa.mk (jf (g := gb539) (o := .cells #[.int .i64 ((qb l0 x16_1).f0), .int .i64 ((qb l0 x16_1).f1)] 36 (0, 0)) (by (with_reducible repeat (first | refine qu ?_ _ | refine qx ?_ | refine qt ?_ _)); refine zo (cs := #[.int .i64 ((qb l0 x16_1).f0), .int .i64 0]) ?_ 1 _ rfl; (with_reducible repeat (first | refine qu ?_ _ | refine qx ?_ | refine qt ?_ _)); refine zo (cs := #[.int .i64 0, .int .i64 0]) ?_ 0 _ rfl; (with_reducible repeat (first | refine qu ?_ _ | refine qx ?_ | refine qt ?_ _)); exact BK539.out) hb); replace HB := qa.mk (qh (hbg_) hb); (try clear hb); have q13 : (x16_1 : Int) ≤ ((l0.length : Int) : Int) := odt_; obtain ⟨i013, hi013, _, hsz13, _⟩ := info_parts js; have hroom13 : l0.length ≤ c0 := HC0.out; have hC13 : Kd.C k36 _ (some ad538) l0.length l0 := HR0.out; have hcut13 := cut_to (P := Try.prog) 28 36 .i64 Try.underlying28 hi013 (some ad538) l0.length c0 x16_1 (odt_) q13 hroom13; have hr13 := Kd.jx (m := (x16_1 : Int).toNat) hC13 (by omega); have hy13 : y541.length = (x16_1 : Int).toNat := (by rw [Ny541.out, List.length_take]; omega); rw [← Ny541.out] at hr13; rw [← hy13] at hcut13; have HR544 := qa.mk hr13; have HC544 := qa.mk (show y541.length ≤ c0 from by omega); clear hr13 hC13 hroom13 hi013 hsz13; have KY13 := qa.mk hy13; clear hy13; replace q13 := eq_true q13))
         go_loopg [28] k1 (fun kq v28 w' => ∃ (x28_2 : Int), v28 = .int .i64 x28_2 ∧ qa (qI.l1 kq l0 false l0 (l0.length : Int) x16_1 y541 (y541.length : Int) x28_2 ((qb l0 x16_1).f0) ((qb l0 x16_1).f1) = some (r1, r2)) ∧ qa (kq ≤ k1) ∧ qa (w'.heap[gb539]? = some (.cells #[.int .i64 ((qb l0 x16_1).f0), .int .i64 ((qb l0 x16_1).f1)] 36 (0, 0))) ∧ qa (Below w.heap.size w w'))
         case atStart => exact ⟨(0), (by first | rfl | (simp; done) | (simp [*]; done)), H', ⟨Nat.le_refl _⟩, ⟨bk_ BK539.out⟩, ⟨hbg_⟩⟩
         case round =>
          clear H'; (try clear q1; try clear c2; try clear c2b0; try clear c2b1; try clear p2; try clear c3; try clear c3b0; try clear c4; try clear c4b0; try clear c5; try clear c5b0; try clear p5; try clear q5; try clear hx5; try clear c7; try clear c8; try clear c8b0; try clear c9; try clear c9b0; try clear c9b1; try clear q13; try clear hcz11_0; try clear hcz11_1; try clear hfz11_0; try clear hfz11_1; try clear hx538_0; try clear hx538_1; try clear p2; try clear p538; try clear q13; try clear q538); obtain ⟨x28_2, rfl, HA, HK2, BK539, HB⟩ := hrel
          cases gk with
          | zero => exact absurd HA.out (by simp [qI.l1])
          | succ k2 =>
           have H := HA.out; clear HA; simp only [qI.l1] at H; by_cases c14 : x28_2 < (y541.length : Int)
           ·rw [if_pos c14] at H
            have c14b0 : decide (x28_2 < (y541.length : Int)) = true := decide_eq_true c14; clear c14; by_cases c15 : 0 ≤ x28_2
            ·rw [if_pos c15] at H
             have c15b0 : decide (0 ≤ x28_2) = true := decide_eq_true c15; clear c15; by_cases c16 : x28_2 < (y541.length : Int)
             ·rw [if_pos c16] at H
              have c16b0 : decide (x28_2 < (y541.length : Int)) = true := decide_eq_true c16; clear c16; by_cases c17 : (((qb l0 x16_1).f0) == ((qb y541 x28_2).f0) && (((qb l0 x16_1).f1) == ((qb y541 x28_2).f1))) = true
              ·rw [if_pos c17] at H
               have c17b0 : (((qb l0 x16_1).f0) == ((qb y541 x28_2).f0) && (((qb l0 x16_1).f1) == ((qb y541 x28_2).f1))) = true := c17; (try (have c17b1 : decide (((qb l0 x16_1).f0) = ((qb y541 x28_2).f0) && (((qb l0 x16_1).f1) == ((qb y541 x28_2).f1))) = true := by simpa using c17)); (try (have c17b2 : (((qb l0 x16_1).f0) == ((qb y541 x28_2).f0) && (((qb l0 x16_1).f1) == ((qb y541 x28_2).f1))) = true := by simpa using c17)); clear c17; simp only [Option.some.injEq, Prod.mk.injEq] at H; obtain ⟨rfl, rfl⟩ := H; have p545 : 0 ≤ (x28_2 : Int) := odt_; have q545 : x28_2 < (y541.length : Int) := odt_; obtain ⟨ad545, e545, hx545_0, hx545_1⟩ := zF HR544.out x28_2 p545 q545; obtain rfl : ad538 = ad545 := (by injection e545); replace hx545_0 := (HB.out.cell (World.block_lt_of_cell? w _ hx545_0)).trans hx545_0; replace hx545_1 := (HB.out.cell (World.block_lt_of_cell? w _ hx545_1)).trans hx545_1; replace p545 := eq_true p545; replace q545 := eq_true q545
               go_wp2_with (first | ((with_reducible refine qN (N := 8) rfl ?_); refine qO ?hg (N := 8) ?hd (cs := #[.int .i64 0, .int .i64 0]) (t := 36) ?hr ?_; (case hd => rfl); (case hg => rfl); (case hr => first | (go_simp; done) | (go_simp; rfl)); intro gb546 hg w18 hbox hb; have BK546 := qa.mk (hbox); have GW546 := qa.mk ((by rw [hg]; exact (qn (hbg_)) : w.heap.size ≤ gb546)); have GE546 := qa.mk ((by rw [hg]; exact (qn (hbg_)) : w.heap.size ≤ gb546)); replace HB := qa.mk (qh (hbg_) hb); have NB539_546 := qa.mk ((by rw [hg]; exact Nat.ne_of_lt (qR (bk_ BK539.out)) : gb539 ≠ gb546)); have NB546_539 := qa.mk ((by rw [hg]; exact Nat.ne_of_gt (qR (bk_ BK539.out)) : gb546 ≠ gb539)); replace BK539 := bb_ BK539 hb; clear hb hbox hg; have hnb19 := NB546_539.out; have hnc19 := NB539_546.out; have hcz20_0 : w18.cell? ⟨gb546, 0, none⟩ = some (.int .i64 0) := (qc BK546.out 0).trans rfl; have hcz20_1 : w18.cell? ⟨gb546, 1, none⟩ = some (.int .i64 0) := (qc BK546.out 1).trans rfl; have hfz20_0 := qg BK546.out 0; have hfz20_1 := qg BK546.out 1; have hcz21_0 : w18.cell? ⟨gb539, 0, none⟩ = some (.int .i64 ((qb l0 x16_1).f0)) := (qc BK539.out 0).trans rfl; have hcz21_1 : w18.cell? ⟨gb539, 1, none⟩ = some (.int .i64 ((qb l0 x16_1).f1)) := (qc BK539.out 1).trans rfl; have hfz21_0 := qg BK539.out 0; have hfz21_1 := qg BK539.out 1))
               go_ret2; exact ⟨by first | rfl | (simp [qw, qv] <;> rfl) | (simp [*, qw, qv] <;> rfl), hbg_⟩
              ·rw [if_neg c17] at H
               (have c17b0 : (((qb l0 x16_1).f0) == ((qb y541 x28_2).f0) && (((qb l0 x16_1).f1) == ((qb y541 x28_2).f1))) = false := by simpa using c17); (try (have c17b1 : decide (((qb l0 x16_1).f0) = ((qb y541 x28_2).f0) && (((qb l0 x16_1).f1) == ((qb y541 x28_2).f1))) = false := by simpa using c17)); (try (have c17b2 : (((qb l0 x16_1).f0) == ((qb y541 x28_2).f0) && (((qb l0 x16_1).f1) == ((qb y541 x28_2).f1))) = false := by simpa using c17)); (try (have c17b3 : ¬ (((qb l0 x16_1).f0) = ((qb y541 x28_2).f0) && (((qb l0 x16_1).f1) == ((qb y541 x28_2).f1))) := by simpa using c17)); clear c17; have H' := qa.mk H; clear H; have p545 : 0 ≤ (x28_2 : Int) := odt_; have q545 : x28_2 < (y541.length : Int) := odt_; obtain ⟨ad545, e545, hx545_0, hx545_1⟩ := zF HR544.out x28_2 p545 q545; obtain rfl : ad538 = ad545 := (by injection e545); replace hx545_0 := (HB.out.cell (World.block_lt_of_cell? w _ hx545_0)).trans hx545_0; replace hx545_1 := (HB.out.cell (World.block_lt_of_cell? w _ hx545_1)).trans hx545_1; replace p545 := eq_true p545; replace q545 := eq_true q545
               go_wp2_with (first | ((with_reducible refine qN (N := 8) rfl ?_); refine qO ?hg (N := 8) ?hd (cs := #[.int .i64 0, .int .i64 0]) (t := 36) ?hr ?_; (case hd => rfl); (case hg => rfl); (case hr => first | (go_simp; done) | (go_simp; rfl)); intro gb546 hg w22 hbox hb; have BK546 := qa.mk (hbox); have GW546 := qa.mk ((by rw [hg]; exact (qn (hbg_)) : w.heap.size ≤ gb546)); have GE546 := qa.mk ((by rw [hg]; exact (qn (hbg_)) : w.heap.size ≤ gb546)); replace HB := qa.mk (qh (hbg_) hb); have NB539_546 := qa.mk ((by rw [hg]; exact Nat.ne_of_lt (qR (bk_ BK539.out)) : gb539 ≠ gb546)); have NB546_539 := qa.mk ((by rw [hg]; exact Nat.ne_of_gt (qR (bk_ BK539.out)) : gb546 ≠ gb539)); replace BK539 := bb_ BK539 hb; clear hb hbox hg; have hnb23 := NB546_539.out; have hnc23 := NB539_546.out; have hcz24_0 : w22.cell? ⟨gb546, 0, none⟩ = some (.int .i64 0) := (qc BK546.out 0).trans rfl; have hcz24_1 : w22.cell? ⟨gb546, 1, none⟩ = some (.int .i64 0) := (qc BK546.out 1).trans rfl; have hfz24_0 := qg BK546.out 0; have hfz24_1 := qg BK546.out 1; have hcz25_0 : w22.cell? ⟨gb539, 0, none⟩ = some (.int .i64 ((qb l0 x16_1).f0)) := (qc BK539.out 0).trans rfl; have hcz25_1 : w22.cell? ⟨gb539, 1, none⟩ = some (.int .i64 ((qb l0 x16_1).f1)) := (qc BK539.out 1).trans rfl; have hfz25_0 := qg BK539.out 0; have hfz25_1 := qg BK539.out 1))
               go_roundg k2
               case measure => have := HK1.out; have := HK2.out; omega
               case rel => exact ⟨(wrap64 (x28_2 + 1)), (by first | rfl | (simp; done) | (simp [*]; done)), H', ⟨by have := HK1.out; have := HK2.out; omega⟩, ⟨by (with_reducible repeat (first | refine qu ?_ _ | refine qx ?_ | refine qt ?_ _)); refine zN ?_ NB539_546.out _; (with_reducible repeat (first | refine qu ?_ _ | refine qx ?_ | refine qt ?_ _)); refine zN ?_ NB539_546.out _; (with_reducible repeat (first | refine qu ?_ _ | refine qx ?_ | refine qt ?_ _)); exact BK539.out⟩, ⟨hbg_⟩⟩
             ·rw [if_neg c16] at H
              exact absurd H (by simp)
            ·rw [if_neg c15] at H
             exact absurd H (by simp)
           ·rw [if_neg c14] at H
            have c14b0 : decide (x28_2 < (y541.length : Int)) = false := decide_eq_false c14; clear c14; have H' := qa.mk H; clear H; go_wp2
            go_roundg k2
            case measure => have := HK1.out; have := HK2.out; omega
            case rel => exact ⟨(wrap64 (x16_1 + 1)), (by first | rfl | (simp; done) | (simp [*]; done)), H', ⟨by have := HK1.out; have := HK2.out; omega⟩, ⟨hbg_⟩⟩
        ·rw [if_neg c9] at H
         exact absurd H (by simp)
       ·replace c7 := Bool.eq_false_iff.mpr c7
        subst c7; rw [if_neg Bool.false_ne_true] at H; simp only [Option.some.injEq, Prod.mk.injEq] at H; obtain ⟨rfl, rfl⟩ := H; have p538 : 0 ≤ (x16_1 : Int) := odt_; have q538 : x16_1 < (l0.length : Int) := odt_; obtain ⟨ad538, e538, hx538_0, hx538_1⟩ := zF HR0.out x16_1 p538 q538; cases e538; replace hx538_0 := (HB.out.cell (World.block_lt_of_cell? w _ hx538_0)).trans hx538_0; replace hx538_1 := (HB.out.cell (World.block_lt_of_cell? w _ hx538_1)).trans hx538_1; replace p538 := eq_true p538; replace q538 := eq_true q538
        go_wp2_with (first | ((with_reducible refine qN (N := 6) rfl ?_); refine qO ?hg (N := 6) ?hd (cs := #[.int .i64 0, .int .i64 0]) (t := 36) ?hr ?_; (case hd => rfl); (case hg => rfl); (case hr => first | (go_simp; done) | (go_simp; rfl)); intro gb539 hg w26 hbox hb; have BK539 := qa.mk (hbox); have GW539 := qa.mk ((by rw [hg]; exact (qn (hb_)) : w.heap.size ≤ gb539)); have GE539 := qa.mk ((by rw [hg]; exact (qn (hb_)) : w.heap.size ≤ gb539)); replace HB := qa.mk (qh (hb_) hb); clear hb hbox hg; have hcz27_0 : w26.cell? ⟨gb539, 0, none⟩ = some (.int .i64 0) := (qc BK539.out 0).trans rfl; have hcz27_1 : w26.cell? ⟨gb539, 1, none⟩ = some (.int .i64 0) := (qc BK539.out 1).trans rfl; have hfz27_0 := qg BK539.out 0; have hfz27_1 := qg BK539.out 1) | ((with_reducible refine qo (f := 54) rfl ?_); refine qP (some 22) rfl rfl Try.func54 (by kernel_rfl) rfl #[.agg #[.int .i64 ((qb l0 x16_1).f0), .int .i64 ((qb l0 x16_1).f1)]] rfl ga_ ?_; (with_reducible refine (spec_pgIs.calls ((qb l0 x16_1).f0) ((qb l0 x16_1).f1) false _ A6.out).mono ?_); rintro e w28 ⟨rfl, hb⟩; refine ⟨_, rfl, ?_⟩; replace BK539 := qa.mk (jf (g := gb539) (o := .cells #[.int .i64 ((qb l0 x16_1).f0), .int .i64 ((qb l0 x16_1).f1)] 36 (0, 0)) (by (with_reducible repeat (first | refine qu ?_ _ | refine qx ?_ | refine qt ?_ _)); refine zo (cs := #[.int .i64 ((qb l0 x16_1).f0), .int .i64 0]) ?_ 1 _ rfl; (with_reducible repeat (first | refine qu ?_ _ | refine qx ?_ | refine qt ?_ _)); refine zo (cs := #[.int .i64 0, .int .i64 0]) ?_ 0 _ rfl; (with_reducible repeat (first | refine qu ?_ _ | refine qx ?_ | refine qt ?_ _)); exact BK539.out) hb); replace HB := qa.mk (qh (hbg_) hb); (try clear hb)))
        go_ret2; exact ⟨by first | rfl | (simp [qw, qv] <;> rfl) | (simp [*, qw, qv] <;> rfl), hbg_⟩
      ·rw [if_neg c5] at H
       exact absurd H (by simp)
     ·rw [if_neg c4] at H
      exact absurd H (by simp)
    ·rw [if_neg c3] at H
     have c3b0 : decide (x16_1 < (l0.length : Int)) = false := decide_eq_false c3; clear c3; have H' := qa.mk H; clear H; go_wp2
     go_loopg [4, 39] k1 (fun kq v4 v39 w' => ∃ (x4_2 : Bool) (x39_2 : Int), v4 = .bool x4_2 ∧ v39 = .int .i64 x39_2 ∧ qa (qI.l2 kq l0 x4_2 l0 (l0.length : Int) x39_2 = some (r1, r2)) ∧ qa (kq ≤ k1) ∧ qa (Below w.heap.size w w'))
     case atStart => exact ⟨(false), (0), (by first | rfl | (simp; done) | (simp [*]; done)), (by first | rfl | (simp; done) | (simp [*]; done)), H', ⟨Nat.le_refl _⟩, ⟨hb_⟩⟩
     case round =>
      clear H'
      try clear c1; try clear q1; try clear c2; try clear c2b0; try clear c2b1; try clear p2; try clear c3; try clear c3b0; try clear c4; try clear c4b0; try clear c5; try clear c5b0; try clear p5; try clear q5; try clear hx5; try clear p6; try clear c7; try clear c8; try clear c8b0; try clear c9; try clear c9b0; try clear c9b1; try clear q13; try clear c14; try clear c14b0; try clear c15; try clear c15b0; try clear c16; try clear c16b0; try clear c17; try clear c17b0; try clear c17b1; try clear c17b2; try clear c19; try clear c23; try clear hcz11_0; try clear hcz11_1; try clear hcz20_0; try clear hcz20_1; try clear hcz21_0; try clear hcz21_1; try clear hcz24_0; try clear hcz24_1; try clear hcz25_0; try clear hcz25_1; try clear hcz27_0; try clear hcz27_1; try clear hfz11_0; try clear hfz11_1; try clear hfz20_0; try clear hfz20_1; try clear hfz21_0; try clear hfz21_1; try clear hfz24_0; try clear hfz24_1; try clear hfz25_0; try clear hfz25_1; try clear hfz27_0; try clear hfz27_1; try clear hx538_0; try clear hx538_1; try clear hx545_0; try clear hx545_1; try clear p2; try clear p5; try clear p538; try clear p545; try clear q1; try clear q13; try clear q5; try clear q538; try clear q545
      obtain ⟨x4_2, x39_2, rfl, rfl, HA, HK2, HB⟩ := hrel
      cases gk with
      | zero => exact absurd HA.out (by simp [qI.l2])
      | succ k2 =>
       have H := HA.out; clear HA; simp only [qI.l2] at H; by_cases c29 : x39_2 < (l0.length : Int)
       ·rw [if_pos c29] at H
        have c29b0 : decide (x39_2 < (l0.length : Int)) = true := decide_eq_true c29; clear c29; by_cases c30 : 0 ≤ x39_2
        ·rw [if_pos c30] at H
         have c30b0 : decide (0 ≤ x39_2) = true := decide_eq_true c30; clear c30; by_cases c31 : x39_2 < (l0.length : Int)
         ·rw [if_pos c31] at H
          have c31b0 : decide (x39_2 < (l0.length : Int)) = true := decide_eq_true c31; clear c31; by_cases c32 : x4_2 = true
          ·subst c32
           rw [if_pos rfl] at H; have H' := qa.mk H; clear H; have p547 : 0 ≤ (x39_2 : Int) := odt_; have q547 : x39_2 < (l0.length : Int) := odt_; obtain ⟨ad547, e547, hx547_0, hx547_1⟩ := zF HR0.out x39_2 p547 q547; cases e547; replace hx547_0 := (HB.out.cell (World.block_lt_of_cell? w _ hx547_0)).trans hx547_0; replace hx547_1 := (HB.out.cell (World.block_lt_of_cell? w _ hx547_1)).trans hx547_1; replace p547 := eq_true p547; replace q547 := eq_true q547
           try go_wp2_with (first | ((with_reducible refine qN (N := 10) rfl ?_); refine qO ?hg (N := 10) ?hd (cs := #[.int .i64 0, .int .i64 0]) (t := 36) ?hr ?_; (case hd => rfl); (case hg => rfl); (case hr => first | (go_simp; done) | (go_simp; rfl)); intro gb548 hg w33 hbox hb; have BK548 := qa.mk (hbox); have GW548 := qa.mk ((by rw [hg]; exact (qn (hb_)) : w.heap.size ≤ gb548)); have GE548 := qa.mk ((by rw [hg]; exact (qn (hb_)) : w.heap.size ≤ gb548)); replace HB := qa.mk (qh (hb_) hb); clear hb hbox hg; have hcz34_0 : w33.cell? ⟨gb548, 0, none⟩ = some (.int .i64 0) := (qc BK548.out 0).trans rfl; have hcz34_1 : w33.cell? ⟨gb548, 1, none⟩ = some (.int .i64 0) := (qc BK548.out 1).trans rfl; have hfz34_0 := qg BK548.out 0; have hfz34_1 := qg BK548.out 1) | ((with_reducible refine ju (t := 36) (p := 10) rfl ?_); refine jl (t := 36) (p := 10) (v := ?vo_w35) (w1 := ((w33.setCell ⟨gb548, 0, none⟩ (.int .i64 ((qb l0 x39_2).f0))).setCell ⟨gb548, 1, none⟩ (.int .i64 ((qb l0 x39_2).f1)))) ?hg ?ho ?hn ?hr ?_; (case ho => rfl); (case hg => rfl); (case hn => rfl); (case hr => first | (go_simp; done) | (go_simp; rfl)); intro w35 hw; replace BK548 : qa (w35.heap[gb548]? = some (.cells #[.int .i64 ((qb l0 x39_2).f0), .int .i64 ((qb l0 x39_2).f1)] 36 (0, 0))) := ⟨(by rw [hw]; exact (by (with_reducible repeat (first | refine qu ?_ _ | refine qx ?_ | refine qt ?_ _)); refine zo (cs := #[.int .i64 ((qb l0 x39_2).f0), .int .i64 0]) ?_ 1 _ rfl; (with_reducible repeat (first | refine qu ?_ _ | refine qx ?_ | refine qt ?_ _)); refine zo (cs := #[.int .i64 0, .int .i64 0]) ?_ 0 _ rfl; (with_reducible repeat (first | refine qu ?_ _ | refine qx ?_ | refine qt ?_ _)); exact BK548.out))⟩; replace HB : qa (Below w.heap.size w w35) := ⟨(by rw [hw]; exact (hbg_))⟩; clear hw))
           replace BK548 := qa.mk (qx BK548.out); replace HB := qa.mk (qj HB.out); (refine xr (n := 10) (S := fun w' => True) (ds := []) (fl 0 10) (by kernel_rfl) rfl rfl trivial (fun hHeld => ?_); refine jM qI.tab19 qI.bits19 (fun HT_ HW_ => ?_)); generalize w35.drew = w36 at BK548 HB hHeld ⊢; refine qQ (i := 0) (N := some 44) (v := ?_) (a' := ?_) (fl 1 10) rfl rfl (qG HT_.out (by kernel_rfl)) (fun _ _ _ h => h) (Or.inl ⟨by rfl, ?_⟩) ?_ ?_; rotate_left
           ·intro w'
            go_simp; with_reducible rfl
           rotate_left
           ·simp only [Act.put, sA, sB, sC, qA, qB]
            rfl
           refine qQ (i := 1) (N := some 45) (v := ?_) (a' := ?_) (fl 2 10) rfl rfl (qG HT_.out (by kernel_rfl)) (fun _ _ _ h => h) (Or.inl ⟨by rfl, ?_⟩) ?_ ?_; rotate_left
           ·intro w'
            go_simp; with_reducible rfl
           rotate_left
           ·simp only [Act.put, sA, sB, sC, qA, qB]
            rfl
           refine qQ (i := 2) (N := some 46) (v := undef) (a' := ?_) (fl 3 10) rfl rfl (qG HT_.out (by kernel_rfl)) (fun _ _ _ h => h) (Or.inr ⟨by rfl, rfl⟩) ?_ ?_; rotate_left
           ·simp only [Act.put, sA, sB, sC, qA, qB]
            rfl
           refine qQ (i := 3) (N := some 47) (v := undef) (a' := ?_) (fl 4 10) rfl rfl (qG HT_.out (by kernel_rfl)) (fun _ _ _ h => h) (Or.inr ⟨by rfl, rfl⟩) ?_ ?_; rotate_left
           ·simp only [Act.put, sA, sB, sC, qA, qB]
            rfl
           refine qQ (i := 4) (N := some 48) (v := undef) (a' := ?_) (fl 5 10) rfl rfl (qG HT_.out (by kernel_rfl)) (fun _ _ _ h => h) (Or.inr ⟨by rfl, rfl⟩) ?_ ?_; rotate_left
           ·simp only [Act.put, sA, sB, sC, qA, qB]
            rfl
           refine qQ (i := 5) (N := some 49) (v := undef) (a' := ?_) (fl 6 10) rfl rfl (qG HT_.out (by kernel_rfl)) (fun _ _ _ h => h) (Or.inr ⟨by rfl, rfl⟩) ?_ ?_; rotate_left
           ·simp only [Act.put, sA, sB, sC, qA, qB]
            rfl
           refine qQ (i := 6) (N := some 50) (v := undef) (a' := ?_) (fl 7 10) rfl rfl (qG HT_.out (by kernel_rfl)) (fun _ _ _ h => h) (Or.inr ⟨by rfl, rfl⟩) ?_ ?_; rotate_left
           ·simp only [Act.put, sA, sB, sC, qA, qB]
            rfl
           refine qQ (i := 7) (N := some 51) (v := undef) (a' := ?_) (fl 8 10) rfl rfl (qG HT_.out (by kernel_rfl)) (fun _ _ _ h => h) (Or.inr ⟨by rfl, rfl⟩) ?_ ?_; rotate_left
           ·simp only [Act.put, sA, sB, sC, qA, qB]
            rfl
           refine qQ (i := 8) (N := some 52) (v := ?_) (a' := ?_) (fl 9 10) rfl rfl (qG HT_.out (by kernel_rfl)) (fun _ _ _ h => h) (Or.inl ⟨by rfl, ?_⟩) ?_ ?_; rotate_left
           ·intro w'
            go_simp; with_reducible rfl
           rotate_left
           ·simp only [Act.put, sA, sB, sC, qA, qB]
            rfl
           refine qQ (i := 9) (N := some 4) (v := ?_) (a' := ?_) (fl 10 10) rfl rfl (qG HT_.out (by kernel_rfl)) (fun _ _ _ h => h) (Or.inl ⟨by rfl, ?_⟩) ?_ ?_; rotate_left
           ·intro w'
            go_simp; with_reducible rfl
           rotate_left
           ·simp only [Act.put, sA, sB, sC, qA, qB]
            rfl
           refine done_ (xg HT_.out (by kernel_rfl)) ?_; try go_wp2
           go_roundg k2
           case measure => have := HK1.out; have := HK2.out; omega
           case rel => exact ⟨(true), (wrap64 (x39_2 + 1)), (by first | rfl | (simp; done) | (simp [*]; done)), (by first | rfl | (simp; done) | (simp [*]; done)), H', ⟨by have := HK1.out; have := HK2.out; omega⟩, ⟨hbg_⟩⟩
          ·replace c32 := Bool.eq_false_iff.mpr c32
           subst c32; rw [if_neg Bool.false_ne_true] at H; have c37b0 := eq_true (odt_ : 0 ≤ x39_2); by_cases c38 : x39_2 ≤ (l0.length : Int)
           ·rw [if_pos c38] at H
            have c38b0 := eq_true c38; have c38b1 : decide (x39_2 ≤ (l0.length : Int)) = true := decide_eq_true c38; clear c38; obtain ⟨y549, hy549⟩ : ∃ y_ : List (S36), y_ = (l0.take (x39_2 : Int).toNat) := ⟨_, rfl⟩; (replace H : ((zc.f k2 y549 ((qb l0 x39_2).f0) ((qb l0 x39_2).f1)).bind fun t553 => (qI.l2 k2 l0 (!t553) l0 (l0.length : Int) (wrap64 (x39_2 + 1)))) = some (r1, r2) := by first | (rw [hy549]; with_reducible exact H) | (have H2_ := (Option.bind_some _ _).symm.trans H; rw [hy549]; with_reducible exact H2_) | (have H2_ := (Option.bind_some _ _).symm.trans H; with_reducible exact H2_) | with_reducible exact H | (rw [hy549]; exact H) | exact H); have Ny549 := qa.mk hy549; clear hy549; replace H := Option.bind_eq_some_iff.mp H; obtain ⟨t553, A390, H⟩ := H; (try dsimp -simprocs only at H); have A39 := qa.mk A390; clear A390; have H' := qa.mk H; clear H; have p547 : 0 ≤ (x39_2 : Int) := odt_; have q547 : x39_2 < (l0.length : Int) := odt_; obtain ⟨ad547, e547, hx547_0, hx547_1⟩ := zF HR0.out x39_2 p547 q547; cases e547; replace hx547_0 := (HB.out.cell (World.block_lt_of_cell? w _ hx547_0)).trans hx547_0; replace hx547_1 := (HB.out.cell (World.block_lt_of_cell? w _ hx547_1)).trans hx547_1; replace p547 := eq_true p547; replace q547 := eq_true q547
            try go_wp2_with (first | ((with_reducible refine qN (N := 10) rfl ?_); refine qO ?hg (N := 10) ?hd (cs := #[.int .i64 0, .int .i64 0]) (t := 36) ?hr ?_; (case hd => rfl); (case hg => rfl); (case hr => first | (go_simp; done) | (go_simp; rfl)); intro gb548 hg w40 hbox hb; have BK548 := qa.mk (hbox); have GW548 := qa.mk ((by rw [hg]; exact (qn (hb_)) : w.heap.size ≤ gb548)); have GE548 := qa.mk ((by rw [hg]; exact (qn (hb_)) : w.heap.size ≤ gb548)); replace HB := qa.mk (qh (hb_) hb); clear hb hbox hg; have hcz41_0 : w40.cell? ⟨gb548, 0, none⟩ = some (.int .i64 0) := (qc BK548.out 0).trans rfl; have hcz41_1 : w40.cell? ⟨gb548, 1, none⟩ = some (.int .i64 0) := (qc BK548.out 1).trans rfl; have hfz41_0 := qg BK548.out 0; have hfz41_1 := qg BK548.out 1) | ((with_reducible refine ju (t := 36) (p := 10) rfl ?_); refine jl (t := 36) (p := 10) (v := ?vo_w42) (w1 := ((w40.setCell ⟨gb548, 0, none⟩ (.int .i64 ((qb l0 x39_2).f0))).setCell ⟨gb548, 1, none⟩ (.int .i64 ((qb l0 x39_2).f1)))) ?hg ?ho ?hn ?hr ?_; (case ho => rfl); (case hg => rfl); (case hn => rfl); (case hr => first | (go_simp; done) | (go_simp; rfl)); intro w42 hw; replace BK548 : qa (w42.heap[gb548]? = some (.cells #[.int .i64 ((qb l0 x39_2).f0), .int .i64 ((qb l0 x39_2).f1)] 36 (0, 0))) := ⟨(by rw [hw]; exact (by (with_reducible repeat (first | refine qu ?_ _ | refine qx ?_ | refine qt ?_ _)); refine zo (cs := #[.int .i64 ((qb l0 x39_2).f0), .int .i64 0]) ?_ 1 _ rfl; (with_reducible repeat (first | refine qu ?_ _ | refine qx ?_ | refine qt ?_ _)); refine zo (cs := #[.int .i64 0, .int .i64 0]) ?_ 0 _ rfl; (with_reducible repeat (first | refine qu ?_ _ | refine qx ?_ | refine qt ?_ _)); exact BK548.out))⟩; replace HB : qa (Below w.heap.size w w42) := ⟨(by rw [hw]; exact (hbg_))⟩; clear hw))
            replace BK548 := qa.mk (qx BK548.out); replace HB := qa.mk (qj HB.out); have q44 : (x39_2 : Int) ≤ ((l0.length : Int) : Int) := odt_; obtain ⟨i044, hi044, _, hsz44, _⟩ := info_parts js; have hroom44 : l0.length ≤ c0 := HC0.out; have hC44 : Kd.C k36 _ (some ad547) l0.length l0 := HR0.out; have hcut44 := cut_to (P := Try.prog) 28 36 .i64 Try.underlying28 hi044 (some ad547) l0.length c0 x39_2 (odt_) q44 hroom44; have hr44 := Kd.jx (m := (x39_2 : Int).toNat) hC44 (by omega); have hy44 : y549.length = (x39_2 : Int).toNat := (by rw [Ny549.out, List.length_take]; omega); rw [← Ny549.out] at hr44; rw [← hy44] at hcut44; have HR552 := qa.mk hr44; have HC552 := qa.mk (show y549.length ≤ c0 from by omega); clear hr44 hC44 hroom44 hi044 hsz44; have KY44 := qa.mk hy44; clear hy44; replace q44 := eq_true q44; (refine xr (n := 10) (S := fun w' => w'.cell? ⟨gb548, 0, none⟩ = some (.int .i64 ((qb l0 x39_2).f0)) ∧ w'.cell? ⟨gb548, 1, none⟩ = some (.int .i64 ((qb l0 x39_2).f1))) (ds := []) (fl 0 10) (by kernel_rfl) rfl rfl ⟨(qc BK548.out 0).trans rfl, (qc BK548.out 1).trans rfl⟩ (fun hHeld => ?_); refine jM qI.tab19 qI.bits19 (fun HT_ HW_ => ?_)); generalize w42.drew = w43 at BK548 HB HR552 hHeld ⊢; refine qQ (i := 0) (N := some 44) (v := ?_) (a' := ?_) (fl 1 10) rfl rfl (qG HT_.out (by kernel_rfl)) (fun _ _ _ h => h) (Or.inl ⟨by rfl, ?_⟩) ?_ ?_; rotate_left
            ·intro w'
             go_simp; with_reducible rfl
            rotate_left
            ·simp only [Act.put, sA, sB, sC, qA, qB]
             rfl
            refine qQ (i := 1) (N := some 45) (v := ?_) (a' := ?_) (fl 2 10) rfl rfl (qG HT_.out (by kernel_rfl)) (fun _ _ _ h => h) (Or.inl ⟨by rfl, ?_⟩) ?_ ?_; rotate_left
            ·intro w'
             go_simp; with_reducible rfl
            rotate_left
            ·simp only [Act.put, sA, sB, sC, qA, qB]
             rfl
            refine qQ (i := 2) (N := some 46) (v := ?_) (a' := ?_) (fl 3 10) rfl rfl (qG HT_.out (by kernel_rfl)) (fun _ _ _ h => h) (Or.inl ⟨by rfl, ?_⟩) ?_ ?_; rotate_left
            ·intro w'
             go_simp; with_reducible rfl
            rotate_left
            ·simp only [Act.put, sA, sB, sC, qA, qB]
             rfl
            refine qQ (i := 3) (N := some 47) (v := ?_) (a' := ?_) (fl 4 10) rfl rfl (qG HT_.out (by kernel_rfl)) (fun _ _ _ h => h) (Or.inl ⟨by rfl, ?_⟩) ?_ ?_; rotate_left
            ·intro w'
             go_simp; with_reducible rfl
            rotate_left
            ·simp only [Act.put, sA, sB, sC, qA, qB]
             rfl
            refine qQ (i := 4) (N := some 48) (v := ?_) (a' := ?_) (fl 5 10) rfl rfl (qG HT_.out (by kernel_rfl)) (fun _ _ _ h => h) (Or.inl ⟨by rfl, ?_⟩) ?_ ?_; rotate_left
            ·intro w'
             go_simp; with_reducible rfl
            rotate_left
            ·simp only [Act.put, sA, sB, sC, qA, qB]
             rfl
            refine jg (i := 5) (N := some 49) (v := ?_) (a' := ?_) (fl 6 10) rfl rfl (zp HT_.out HW_.out (by kernel_rfl)) (fun _ _ _ h => h) (Or.inl ⟨by rfl, ?_⟩) hHeld ?_ ?_; rotate_left
            ·rintro w' ⟨s0, s1⟩
             go_simp; with_reducible rfl
            rotate_left
            ·simp only [Act.put, sA, sB, sC, qA, qB]
             rfl
            refine one_ (i := 6) (N := some 50) (fl 7 10) rfl rfl (jd HT_.out (by kernel_rfl)) (by decide) (fun K hK => ?_); refine xe Try.func55 (by kernel_rfl) rfl #[.slice (some ad547) y549.length c0, .agg #[.int .i64 ((qb l0 x39_2).f0), .int .i64 ((qb l0 x39_2).f1)]] (by rfl) rfl rfl ga_ ?_; (with_reducible refine (zc.calls k2 _ _ y549 ((qb l0 x39_2).f0) ((qb l0 x39_2).f1) t553 _ ?side1 ?side2 A39.out).mono ?_); (case side1 => repeat (first | exact (Kd.zV HR552.out HB.out) | (with_reducible refine Kd.qZ ?_ _) | (with_reducible refine Kd.qY ?_ _) | (with_reducible refine Kd.zi ?_))); (case side2 => exact HC552.out); rintro e w45 ⟨rfl, hb⟩; refine ⟨_, rfl, ?_⟩; replace BK548 := bb_ BK548 hb; replace HB := qa.mk (qh (hbg_) hb); (try clear hb); refine hK.out _ _ ⟨(qc BK548.out 0).trans rfl, (qc BK548.out 1).trans rfl⟩ (fun hHeld => ?_); clear hK K; refine je (a' := ?_) ?_ ?_; rotate_left
            ·show Act.put _ (some 50) _ = _
             simp only [Act.put, sA, sB, sC, qA, qB]; rfl
            refine qQ (i := 7) (N := some 51) (v := ?_) (a' := ?_) (fl 8 10) rfl rfl (qG HT_.out (by kernel_rfl)) (fun _ _ _ h => h) (Or.inl ⟨by rfl, ?_⟩) ?_ ?_; rotate_left
            ·intro w'
             go_simp; with_reducible rfl
            rotate_left
            ·simp only [Act.put, sA, sB, sC, qA, qB]
             rfl
            refine qQ (i := 8) (N := some 52) (v := ?_) (a' := ?_) (fl 9 10) rfl rfl (qG HT_.out (by kernel_rfl)) (fun _ _ _ h => h) (Or.inl ⟨by rfl, ?_⟩) ?_ ?_; rotate_left
            ·intro w'
             go_simp; with_reducible rfl
            rotate_left
            ·simp only [Act.put, sA, sB, sC, qA, qB]
             rfl
            refine qQ (i := 9) (N := some 4) (v := ?_) (a' := ?_) (fl 10 10) rfl rfl (qG HT_.out (by kernel_rfl)) (fun _ _ _ h => h) (Or.inl ⟨by rfl, ?_⟩) ?_ ?_; rotate_left
            ·intro w'
             go_simp; with_reducible rfl
            rotate_left
            ·simp only [Act.put, sA, sB, sC, qA, qB]
             rfl
            refine done_ (xg HT_.out (by kernel_rfl)) ?_; try go_wp2
            go_roundg k2
            case measure => have := HK1.out; have := HK2.out; omega
            case rel => exact ⟨(!t553), (wrap64 (x39_2 + 1)), (by first | rfl | (simp; done) | (simp [*]; done)), (by first | rfl | (simp; done) | (simp [*]; done)), H', ⟨by have := HK1.out; have := HK2.out; omega⟩, ⟨hbg_⟩⟩
           ·rw [if_neg c38] at H
            exact absurd H (by simp)
         ·rw [if_neg c31] at H
          exact absurd H (by simp)
        ·rw [if_neg c30] at H
         exact absurd H (by simp)
       ·rw [if_neg c29] at H
        have c29b0 : decide (x39_2 < (l0.length : Int)) = false := decide_eq_false c29; clear c29; simp only [Option.some.injEq, Prod.mk.injEq] at H; obtain ⟨rfl, rfl⟩ := H; go_wp2; go_ret2; exact ⟨by first | rfl | (simp [qw, qv] <;> rfl) | (simp [*, qw, qv] <;> rfl), hb_⟩
end
section
attribute [local go_sem high] eqA36
def zP.l0 : Nat → List (S36) → List (S36) → Int → Int → Option (Bool)
 | 0, _, _, _, _ => none
 | k + 1, x0, x1, x12, x13 => if x13 < x12 then (if 0 ≤ x13 then (if x13 < (x0.length : Int) then (if x13 < (x1.length : Int) then (if (!(((qb x0 x13).f0) == ((qb x1 x13).f0)) || (!(((qb x0 x13).f1) == ((qb x1 x13).f1)))) = true then (some false) else (zP.l0 k x0 x1 x12 (wrap64 (x13 + 1)))) else (none)) else (none)) else (none)) else (some true)
def zP.f (k : Nat) (l0 : List (S36)) (l1 : List (S36)) : Option (Bool) := if (l0.length : Int) = (l1.length : Int) then (zP.l0 k l0 l1 (l0.length : Int) 0) else (some false)
theorem zP.mono_l : ∀ k, (∀ y0 y1 y2 y3, LeO (zP.l0 k y0 y1 y2 y3) (zP.l0 (k + 1) y0 y1 y2 y3))
 | 0 => fun _ _ _ _ r h => by simp [zP.l0] at h
 | k + 1 => by
  have ih0 := zP.mono_l k
  ·intro y0 y1 y2 y3
   unfold zP.l0
   repeat' first
   | (with_reducible exact ih0 _ _ _ _)
   | (with_reducible exact LeO.refl _)
   | (with_reducible exact LeO.none _)
   | (with_reducible refine LeO.ite ?_ ?_)
   | (with_reducible refine LeO.bind ?_ (fun _ => ?_))
theorem zP.mono : ∀ a0 a1 k, LeO (zP.f k a0 a1) (zP.f (k + 1) a0 a1) := by
 intro a0 a1 k; have ih0 := zP.mono_l k; unfold zP.f
 repeat' first
   | (with_reducible exact ih0 _ _ _ _)
   | (with_reducible exact LeO.refl _)
   | (with_reducible exact LeO.none _)
   | (with_reducible refine LeO.ite ?_ ?_)
   | (with_reducible refine LeO.bind ?_ (fun _ => ?_))
set_option maxHeartbeats 8000000 in
set_option maxRecDepth 100000 in
theorem zP.calls (k : Nat) (A0 : Option Addr) (c0 : Nat) (l0 : List (S36)) (A1 : Option Addr) (c1 : Nat) (l1 : List (S36)) (r : Bool) (w : World) (hr0 : Kd.C k36 w A0 l0.length l0) (hc0 : l0.length ≤ c0) (hr1 : Kd.C k36 w A1 l1.length l1) (hc1 : l1.length ≤ c1) (h : zP.f k l0 l1 = some r) :
  Calls Try.prog 24 #[.slice A0 l0.length c0, .slice A1 l1.length c1] w fun e w' => e = .returned (.bool r) ∧ zd w w' := by
 have hu36 := Try.underlying36; have HR0 := qa.mk hr0; have HC0 := qa.mk hc0; clear hr0 hc0; have HR1 := qa.mk hr1; have HC1 := qa.mk hc1; clear hr1 hc1; have H : (if (l0.length : Int) = (l1.length : Int) then (zP.l0 k l0 l1 (l0.length : Int) 0) else (some false)) = some r := h; clear h; by_cases c3 : (l0.length : Int) = (l1.length : Int)
 ·rw [if_pos c3] at H
  have c3b0 : ((l0.length : Int) == (l1.length : Int)) = true := beq_iff_eq.mpr c3; have c3b1 : ((l0.length : Int) != (l1.length : Int)) = false := bne_eq_false_iff_eq.mpr c3; (have c3b2 : (l0.length == l1.length) = true := by first | simpa using c3 | (simp at c3 ⊢; omega)); clear c3; have H' := qa.mk H; clear H; go_enter Try.func24, Try.ntmps24; go_wp2; repeat (go_quiet (fail); try go_wp2)
  go_loopg [13] k (fun kq v13 w' => ∃ (x13_1 : Int), v13 = .int .i64 x13_1 ∧ qa (zP.l0 kq l0 l1 (l0.length : Int) x13_1 = some r) ∧ qa (kq ≤ k) ∧ zd w w')
  case atStart => exact ⟨(0), (by first | rfl | (simp; done) | (simp [*]; done)), H', ⟨Nat.le_refl _⟩, by repeat (first | exact zd.refl _ | apply zd.step)⟩
  case round =>
   clear H'; (try clear c1; try clear c2; try clear p2; try clear c3; try clear c3b0; try clear c3b1; try clear c3b2); obtain ⟨x13_1, rfl, HA, HK1, ⟨m1, rfl⟩⟩ := hrel
   cases gk with
   | zero => exact absurd HA.out (by simp [zP.l0])
   | succ k1 =>
    have H := HA.out; clear HA; simp only [zP.l0] at H; by_cases c4 : x13_1 < (l0.length : Int)
    ·rw [if_pos c4] at H
     have c4b0 : decide (x13_1 < (l0.length : Int)) = true := decide_eq_true c4; clear c4; by_cases c5 : 0 ≤ x13_1
     ·rw [if_pos c5] at H
      have c5b0 : decide (0 ≤ x13_1) = true := decide_eq_true c5; clear c5; by_cases c6 : x13_1 < (l0.length : Int)
      ·rw [if_pos c6] at H
       have c6b0 : decide (x13_1 < (l0.length : Int)) = true := decide_eq_true c6; clear c6; by_cases c7 : x13_1 < (l1.length : Int)
       ·rw [if_pos c7] at H
        have c7b0 : decide (x13_1 < (l1.length : Int)) = true := decide_eq_true c7; clear c7; by_cases c8 : (!(((qb l0 x13_1).f0) == ((qb l1 x13_1).f0)) || (!(((qb l0 x13_1).f1) == ((qb l1 x13_1).f1)))) = true
        ·rw [if_pos c8] at H
         have c8b0 : (!(((qb l0 x13_1).f0) == ((qb l1 x13_1).f0)) || (!(((qb l0 x13_1).f1) == ((qb l1 x13_1).f1)))) = true := c8; clear c8; obtain rfl := Option.some.inj H; have p554 : 0 ≤ (x13_1 : Int) := odt_; have q554 : x13_1 < (l0.length : Int) := odt_; obtain ⟨ad554, e554, hx554_0, hx554_1⟩ := zF HR0.out x13_1 p554 q554; cases e554; replace p554 := eq_true p554; replace q554 := eq_true q554; have p555 : 0 ≤ (x13_1 : Int) := odt_; have q555 : x13_1 < (l1.length : Int) := odt_; obtain ⟨ad555, e555, hx555_0, hx555_1⟩ := zF HR1.out x13_1 p555 q555; cases e555; replace p555 := eq_true p555; replace q555 := eq_true q555; go_wp2; (repeat (go_quiet (fail); try go_wp2)); go_ret; exact ⟨by first | rfl | (simp; done) | (simp [*]; done), by repeat (first | exact zd.refl _ | apply zd.step)⟩
        ·rw [if_neg c8] at H
         (have c8b0 : (!(((qb l0 x13_1).f0) == ((qb l1 x13_1).f0)) || (!(((qb l0 x13_1).f1) == ((qb l1 x13_1).f1)))) = false := by simpa using c8); clear c8; have H' := qa.mk H; clear H; have p554 : 0 ≤ (x13_1 : Int) := odt_; have q554 : x13_1 < (l0.length : Int) := odt_; obtain ⟨ad554, e554, hx554_0, hx554_1⟩ := zF HR0.out x13_1 p554 q554; cases e554; replace p554 := eq_true p554; replace q554 := eq_true q554; have p555 : 0 ≤ (x13_1 : Int) := odt_; have q555 : x13_1 < (l1.length : Int) := odt_; obtain ⟨ad555, e555, hx555_0, hx555_1⟩ := zF HR1.out x13_1 p555 q555; cases e555; replace p555 := eq_true p555; replace q555 := eq_true q555; go_wp2; repeat (go_quiet (fail); try go_wp2)
         go_roundg k1
         case measure => have := HK1.out; omega
         case rel => exact ⟨(wrap64 (x13_1 + 1)), (by first | rfl | (simp; done) | (simp [*]; done)), H', ⟨by have := HK1.out; omega⟩, by repeat (first | exact zd.refl _ | apply zd.step)⟩
       ·rw [if_neg c7] at H
        exact absurd H (by simp)
      ·rw [if_neg c6] at H
       exact absurd H (by simp)
     ·rw [if_neg c5] at H
      exact absurd H (by simp)
    ·rw [if_neg c4] at H
     have c4b0 : decide (x13_1 < (l0.length : Int)) = false := decide_eq_false c4; clear c4; obtain rfl := Option.some.inj H; go_wp2; (repeat (go_quiet (fail); try go_wp2)); go_ret; exact ⟨by first | rfl | (simp; done) | (simp [*]; done), by repeat (first | exact zd.refl _ | apply zd.step)⟩
 ·rw [if_neg c3] at H
  have c3b0 : ((l0.length : Int) == (l1.length : Int)) = false := beq_eq_false_iff_ne.mpr c3; have c3b1 : ((l0.length : Int) != (l1.length : Int)) = true := bne_iff_ne.mpr c3; (have c3b2 : (l0.length == l1.length) = false := by first | simpa using c3 | (simp at c3 ⊢; omega)); obtain rfl := Option.some.inj H; go_enter Try.func24, Try.ntmps24; go_wp2; (repeat (go_quiet (fail); try go_wp2)); go_ret; exact ⟨by first | rfl | (simp; done) | (simp [*]; done), by repeat (first | exact zd.refl _ | apply zd.step)⟩
end
section
attribute [local go_sem high] eqA36
def zW.l0 : Nat → List (S36) → List (S36) → Int → Int → Option (Bool)
 | 0, _, _, _, _ => none
 | k + 1, x0, x1, x7, x8 => if x8 < x7 then (if 0 ≤ x8 then (if x8 < (x0.length : Int) then (if x8 < (x1.length : Int) then (if (!(((qb x0 x8).f0) == ((qb x1 x8).f0)) || (!(((qb x0 x8).f1) == ((qb x1 x8).f1)))) = true then (if ((qb x0 x8).f0) < ((qb x1 x8).f0) then (some true) else (if ((qb x0 x8).f0) = ((qb x1 x8).f0) then (some (decide (((qb x0 x8).f1) < ((qb x1 x8).f1)))) else (some false))) else (zW.l0 k x0 x1 x7 (wrap64 (x8 + 1)))) else (none)) else (none)) else (none)) else (some false)
def zW.f (k : Nat) (l0 : List (S36)) (l1 : List (S36)) : Option (Bool) := zW.l0 k l0 l1 (l0.length : Int) 0
theorem zW.mono_l : ∀ k, (∀ y0 y1 y2 y3, LeO (zW.l0 k y0 y1 y2 y3) (zW.l0 (k + 1) y0 y1 y2 y3))
 | 0 => fun _ _ _ _ r h => by simp [zW.l0] at h
 | k + 1 => by
  have ih0 := zW.mono_l k
  ·intro y0 y1 y2 y3
   unfold zW.l0
   repeat' first
   | (with_reducible exact ih0 _ _ _ _)
   | (with_reducible exact LeO.refl _)
   | (with_reducible exact LeO.none _)
   | (with_reducible refine LeO.ite ?_ ?_)
   | (with_reducible refine LeO.bind ?_ (fun _ => ?_))
theorem zW.mono : ∀ a0 a1 k, LeO (zW.f k a0 a1) (zW.f (k + 1) a0 a1) := by
 intro a0 a1 k; have ih0 := zW.mono_l k; unfold zW.f
 repeat' first
   | (with_reducible exact ih0 _ _ _ _)
   | (with_reducible exact LeO.refl _)
   | (with_reducible exact LeO.none _)
   | (with_reducible refine LeO.ite ?_ ?_)
   | (with_reducible refine LeO.bind ?_ (fun _ => ?_))
set_option maxHeartbeats 8000000 in
set_option maxRecDepth 100000 in
theorem zW.calls (k : Nat) (A0 : Option Addr) (c0 : Nat) (l0 : List (S36)) (A1 : Option Addr) (c1 : Nat) (l1 : List (S36)) (r : Bool) (w : World) (hr0 : Kd.C k36 w A0 l0.length l0) (hc0 : l0.length ≤ c0) (hr1 : Kd.C k36 w A1 l1.length l1) (hc1 : l1.length ≤ c1) (h : zW.f k l0 l1 = some r) :
  Calls Try.prog 25 #[.slice A0 l0.length c0, .slice A1 l1.length c1] w fun e w' => e = .returned (.bool r) ∧ zd w w' := by
 have hu36 := Try.underlying36; have HR0 := qa.mk hr0; have HC0 := qa.mk hc0; clear hr0 hc0; have HR1 := qa.mk hr1; have HC1 := qa.mk hc1; clear hr1 hc1; have H : (zW.l0 k l0 l1 (l0.length : Int) 0) = some r := h; clear h; have H' := qa.mk H; clear H; go_enter Try.func25, Try.ntmps25; go_wp2; repeat (go_quiet (fail); try go_wp2)
 go_loopg [8] k (fun kq v8 w' => ∃ (x8_1 : Int), v8 = .int .i64 x8_1 ∧ qa (zW.l0 kq l0 l1 (l0.length : Int) x8_1 = some r) ∧ qa (kq ≤ k) ∧ zd w w')
 case atStart => exact ⟨(0), (by first | rfl | (simp; done) | (simp [*]; done)), H', ⟨Nat.le_refl _⟩, by repeat (first | exact zd.refl _ | apply zd.step)⟩
 case round =>
  clear H'; (try clear c1; try clear c2; try clear p2); obtain ⟨x8_1, rfl, HA, HK1, ⟨m1, rfl⟩⟩ := hrel
  cases gk with
  | zero => exact absurd HA.out (by simp [zW.l0])
  | succ k1 =>
   have H := HA.out; clear HA; simp only [zW.l0] at H; by_cases c3 : x8_1 < (l0.length : Int)
   ·rw [if_pos c3] at H
    have c3b0 : decide (x8_1 < (l0.length : Int)) = true := decide_eq_true c3; clear c3; by_cases c4 : 0 ≤ x8_1
    ·rw [if_pos c4] at H
     have c4b0 : decide (0 ≤ x8_1) = true := decide_eq_true c4; clear c4; by_cases c5 : x8_1 < (l0.length : Int)
     ·rw [if_pos c5] at H
      have c5b0 : decide (x8_1 < (l0.length : Int)) = true := decide_eq_true c5; clear c5; by_cases c6 : x8_1 < (l1.length : Int)
      ·rw [if_pos c6] at H
       have c6b0 : decide (x8_1 < (l1.length : Int)) = true := decide_eq_true c6; clear c6; by_cases c7 : (!(((qb l0 x8_1).f0) == ((qb l1 x8_1).f0)) || (!(((qb l0 x8_1).f1) == ((qb l1 x8_1).f1)))) = true
       ·rw [if_pos c7] at H
        have c7b0 : (!(((qb l0 x8_1).f0) == ((qb l1 x8_1).f0)) || (!(((qb l0 x8_1).f1) == ((qb l1 x8_1).f1)))) = true := c7; clear c7; by_cases c8 : ((qb l0 x8_1).f0) < ((qb l1 x8_1).f0)
        ·rw [if_pos c8] at H
         have c8b0 : decide (((qb l0 x8_1).f0) < ((qb l1 x8_1).f0)) = true := decide_eq_true c8; clear c8; obtain rfl := Option.some.inj H; have p556 : 0 ≤ (x8_1 : Int) := odt_; have q556 : x8_1 < (l0.length : Int) := odt_; obtain ⟨ad556, e556, hx556_0, hx556_1⟩ := zF HR0.out x8_1 p556 q556; cases e556; replace p556 := eq_true p556; replace q556 := eq_true q556; have p557 : 0 ≤ (x8_1 : Int) := odt_; have q557 : x8_1 < (l1.length : Int) := odt_; obtain ⟨ad557, e557, hx557_0, hx557_1⟩ := zF HR1.out x8_1 p557 q557; cases e557; replace p557 := eq_true p557; replace q557 := eq_true q557; have p558 : 0 ≤ (x8_1 : Int) := odt_; have q558 : x8_1 < (l0.length : Int) := odt_; obtain ⟨ad558, e558, hx558_0, hx558_1⟩ := zF HR0.out x8_1 p558 q558; obtain rfl : ad556 = ad558 := (by injection e558); replace p558 := eq_true p558; replace q558 := eq_true q558; have p559 : 0 ≤ (x8_1 : Int) := odt_; have q559 : x8_1 < (l1.length : Int) := odt_; obtain ⟨ad559, e559, hx559_0, hx559_1⟩ := zF HR1.out x8_1 p559 q559; obtain rfl : ad557 = ad559 := (by injection e559); replace p559 := eq_true p559; replace q559 := eq_true q559; go_wp2; (repeat (go_quiet (fail); try go_wp2)); go_ret; exact ⟨by first | rfl | (simp; done) | (simp [*]; done), by repeat (first | exact zd.refl _ | apply zd.step)⟩
        ·rw [if_neg c8] at H
         have c8b0 : decide (((qb l0 x8_1).f0) < ((qb l1 x8_1).f0)) = false := decide_eq_false c8; clear c8; by_cases c9 : ((qb l0 x8_1).f0) = ((qb l1 x8_1).f0)
         ·rw [if_pos c9] at H
          have c9b0 : (((qb l0 x8_1).f0) == ((qb l1 x8_1).f0)) = true := beq_iff_eq.mpr c9; have c9b1 : (((qb l0 x8_1).f0) != ((qb l1 x8_1).f0)) = false := bne_eq_false_iff_eq.mpr c9; (have c7b1 : (!((qb l0 x8_1).f1 == (qb l1 x8_1).f1)) = true := by simpa [c9b0] using c7b0); clear c9; obtain rfl := Option.some.inj H; have p556 : 0 ≤ (x8_1 : Int) := odt_; have q556 : x8_1 < (l0.length : Int) := odt_; obtain ⟨ad556, e556, hx556_0, hx556_1⟩ := zF HR0.out x8_1 p556 q556; cases e556; replace p556 := eq_true p556; replace q556 := eq_true q556; have p557 : 0 ≤ (x8_1 : Int) := odt_; have q557 : x8_1 < (l1.length : Int) := odt_; obtain ⟨ad557, e557, hx557_0, hx557_1⟩ := zF HR1.out x8_1 p557 q557; cases e557; replace p557 := eq_true p557; replace q557 := eq_true q557; have p558 : 0 ≤ (x8_1 : Int) := odt_; have q558 : x8_1 < (l0.length : Int) := odt_; obtain ⟨ad558, e558, hx558_0, hx558_1⟩ := zF HR0.out x8_1 p558 q558; obtain rfl : ad556 = ad558 := (by injection e558); replace p558 := eq_true p558; replace q558 := eq_true q558; have p559 : 0 ≤ (x8_1 : Int) := odt_; have q559 : x8_1 < (l1.length : Int) := odt_; obtain ⟨ad559, e559, hx559_0, hx559_1⟩ := zF HR1.out x8_1 p559 q559; obtain rfl : ad557 = ad559 := (by injection e559); replace p559 := eq_true p559; replace q559 := eq_true q559; have p560 : 0 ≤ (x8_1 : Int) := odt_; have q560 : x8_1 < (l0.length : Int) := odt_; obtain ⟨ad560, e560, hx560_0, hx560_1⟩ := zF HR0.out x8_1 p560 q560; obtain rfl : ad556 = ad560 := (by injection e560); replace p560 := eq_true p560; replace q560 := eq_true q560; have p561 : 0 ≤ (x8_1 : Int) := odt_; have q561 : x8_1 < (l1.length : Int) := odt_; obtain ⟨ad561, e561, hx561_0, hx561_1⟩ := zF HR1.out x8_1 p561 q561; obtain rfl : ad557 = ad561 := (by injection e561); replace p561 := eq_true p561; replace q561 := eq_true q561; have p562 : 0 ≤ (x8_1 : Int) := odt_; have q562 : x8_1 < (l0.length : Int) := odt_; obtain ⟨ad562, e562, hx562_0, hx562_1⟩ := zF HR0.out x8_1 p562 q562; obtain rfl : ad556 = ad562 := (by injection e562); replace p562 := eq_true p562; replace q562 := eq_true q562; have p563 : 0 ≤ (x8_1 : Int) := odt_; have q563 : x8_1 < (l1.length : Int) := odt_; obtain ⟨ad563, e563, hx563_0, hx563_1⟩ := zF HR1.out x8_1 p563 q563; obtain rfl : ad557 = ad563 := (by injection e563); replace p563 := eq_true p563; replace q563 := eq_true q563; go_wp2; (repeat (go_quiet (fail); try go_wp2)); go_ret; exact ⟨by first | rfl | (simp; done) | (simp [*]; done), by repeat (first | exact zd.refl _ | apply zd.step)⟩
         ·rw [if_neg c9] at H
          have c9b0 : (((qb l0 x8_1).f0) == ((qb l1 x8_1).f0)) = false := beq_eq_false_iff_ne.mpr c9; have c9b1 : (((qb l0 x8_1).f0) != ((qb l1 x8_1).f0)) = true := bne_iff_ne.mpr c9; obtain rfl := Option.some.inj H; have p556 : 0 ≤ (x8_1 : Int) := odt_; have q556 : x8_1 < (l0.length : Int) := odt_; obtain ⟨ad556, e556, hx556_0, hx556_1⟩ := zF HR0.out x8_1 p556 q556; cases e556; replace p556 := eq_true p556; replace q556 := eq_true q556; have p557 : 0 ≤ (x8_1 : Int) := odt_; have q557 : x8_1 < (l1.length : Int) := odt_; obtain ⟨ad557, e557, hx557_0, hx557_1⟩ := zF HR1.out x8_1 p557 q557; cases e557; replace p557 := eq_true p557; replace q557 := eq_true q557; have p558 : 0 ≤ (x8_1 : Int) := odt_; have q558 : x8_1 < (l0.length : Int) := odt_; obtain ⟨ad558, e558, hx558_0, hx558_1⟩ := zF HR0.out x8_1 p558 q558; obtain rfl : ad556 = ad558 := (by injection e558); replace p558 := eq_true p558; replace q558 := eq_true q558; have p559 : 0 ≤ (x8_1 : Int) := odt_; have q559 : x8_1 < (l1.length : Int) := odt_; obtain ⟨ad559, e559, hx559_0, hx559_1⟩ := zF HR1.out x8_1 p559 q559; obtain rfl : ad557 = ad559 := (by injection e559); replace p559 := eq_true p559; replace q559 := eq_true q559; have p560 : 0 ≤ (x8_1 : Int) := odt_; have q560 : x8_1 < (l0.length : Int) := odt_; obtain ⟨ad560, e560, hx560_0, hx560_1⟩ := zF HR0.out x8_1 p560 q560; obtain rfl : ad556 = ad560 := (by injection e560); replace p560 := eq_true p560; replace q560 := eq_true q560; have p561 : 0 ≤ (x8_1 : Int) := odt_; have q561 : x8_1 < (l1.length : Int) := odt_; obtain ⟨ad561, e561, hx561_0, hx561_1⟩ := zF HR1.out x8_1 p561 q561; obtain rfl : ad557 = ad561 := (by injection e561); replace p561 := eq_true p561; replace q561 := eq_true q561; go_wp2; (repeat (go_quiet (fail); try go_wp2)); go_ret; exact ⟨by first | rfl | (simp; done) | (simp [*]; done), by repeat (first | exact zd.refl _ | apply zd.step)⟩
       ·rw [if_neg c7] at H
        (have c7b0 : (!(((qb l0 x8_1).f0) == ((qb l1 x8_1).f0)) || (!(((qb l0 x8_1).f1) == ((qb l1 x8_1).f1)))) = false := by simpa using c7); clear c7; have H' := qa.mk H; clear H; have p556 : 0 ≤ (x8_1 : Int) := odt_; have q556 : x8_1 < (l0.length : Int) := odt_; obtain ⟨ad556, e556, hx556_0, hx556_1⟩ := zF HR0.out x8_1 p556 q556; cases e556; replace p556 := eq_true p556; replace q556 := eq_true q556; have p557 : 0 ≤ (x8_1 : Int) := odt_; have q557 : x8_1 < (l1.length : Int) := odt_; obtain ⟨ad557, e557, hx557_0, hx557_1⟩ := zF HR1.out x8_1 p557 q557; cases e557; replace p557 := eq_true p557; replace q557 := eq_true q557; go_wp2; repeat (go_quiet (fail); try go_wp2)
        go_roundg k1
        case measure => have := HK1.out; omega
        case rel => exact ⟨(wrap64 (x8_1 + 1)), (by first | rfl | (simp; done) | (simp [*]; done)), H', ⟨by have := HK1.out; omega⟩, by repeat (first | exact zd.refl _ | apply zd.step)⟩
      ·rw [if_neg c6] at H
       exact absurd H (by simp)
     ·rw [if_neg c5] at H
      exact absurd H (by simp)
    ·rw [if_neg c4] at H
     exact absurd H (by simp)
   ·rw [if_neg c3] at H
    have c3b0 : decide (x8_1 < (l0.length : Int)) = false := decide_eq_false c3; clear c3; obtain rfl := Option.some.inj H; go_wp2; (repeat (go_quiet (fail); try go_wp2)); go_ret; exact ⟨by first | rfl | (simp; done) | (simp [*]; done), by repeat (first | exact zd.refl _ | apply zd.step)⟩
end
end Go.Proofs.Ytafnbgclkkjdcaa.MA
