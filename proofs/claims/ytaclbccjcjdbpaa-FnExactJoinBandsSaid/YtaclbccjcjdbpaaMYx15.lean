-- Written by a program of this session (wip/print/myprint.py) over the kit's printer; Lean checks it.
import Derived.Test.YtaclbccjcjdbpaaMYx0
import Derived.Test.YtaclbccjcjdbpaaMYx12
import Derived.Test.YtaclbccjcjdbpaaMYx13
import Derived.Test.YtaclbccjcjdbpaaMYx14
namespace Go.Proofs.Ytaclbccjcjdbpaa.MY
open Go.RowKit Go.Proofs.YtaclbccjcjdbpaaW.PrintWords Go.Proofs.YtaclbccjcjdbpaaW.PrintLast Go.Proofs.YtaclbccjcjdbpaaW.PrintMore Go.Proofs.YtaclbccjcjdbpaaV
attribute [local go_sem] max2_int min2_int max_two min_two max_three min_three max_four min_four   -- for this text's walks alone
set_option linter.unusedVariables false
set_option linter.unusedSimpArgs false

/-! ### slices_SortFunc_impl_Peg_impl_Peg: function 89 (a contract by hand, over the library's shelf) -/
/-- How two pegs compare. -/
def cmpP (x y : S34) : Int := if x.f0 < y.f0 then -1 else if y.f0 < x.f0 then 1 else if x.f1 < y.f1 then -1 else if y.f1 < x.f1 then 1 else 0
theorem cmpP_eq (x y : S34) : impl_comparePegs.f 4 x.f0 x.f1 y.f0 y.f1 = some (cmpP x y) := by
  unfold impl_comparePegs.f cmp_Compare_int.f cmp_Or_int.f cmpP
  by_cases h1 : x.f0 < y.f0
  · by_cases h3 : x.f1 < y.f1
    · simp [h1, h3, cmp_Or_int.l0, cmp_isNaN_int.f, rd, wrap64]
    · by_cases h4 : y.f1 < x.f1
      · simp [h1, h3, h4, cmp_Or_int.l0, cmp_isNaN_int.f, rd, wrap64]
      · simp [h1, h3, h4, cmp_Or_int.l0, cmp_isNaN_int.f, rd, wrap64]
  · by_cases h2 : y.f0 < x.f0
    · by_cases h3 : x.f1 < y.f1
      · simp [h1, h2, h3, cmp_Or_int.l0, cmp_isNaN_int.f, rd, wrap64]
      · by_cases h4 : y.f1 < x.f1
        · simp [h1, h2, h3, h4, cmp_Or_int.l0, cmp_isNaN_int.f, rd, wrap64]
        · simp [h1, h2, h3, h4, cmp_Or_int.l0, cmp_isNaN_int.f, rd, wrap64]
    · by_cases h3 : x.f1 < y.f1
      · simp [h1, h2, h3, cmp_Or_int.l0, cmp_isNaN_int.f, rd, wrap64]
      · by_cases h4 : y.f1 < x.f1
        · simp [h1, h2, h3, h4, cmp_Or_int.l0, cmp_isNaN_int.f, rd, wrap64]
        · simp [h1, h2, h3, h4, cmp_Or_int.l0, cmp_isNaN_int.f, rd, wrap64]
/-- One peg comes ahead of the other one. -/
def ltP (x y : S34) : Bool := decide (x.f0 < y.f0 ∨ (x.f0 = y.f0 ∧ x.f1 < y.f1))
theorem ltOf_cmpP (x y : S34) : Go.Proofs.ltOf cmpP x y = ltP x y := by
  unfold Go.Proofs.ltOf cmpP ltP
  by_cases h1 : x.f0 < y.f0
  · simp [h1]
  · by_cases h2 : y.f0 < x.f0
    · have h5 : ¬ x.f0 = y.f0 := by omega
      simp [h1, h2, h5]
    · have h5 : x.f0 = y.f0 := by omega
      by_cases h3 : x.f1 < y.f1
      · simp [h5, h3]
      · by_cases h4 : y.f1 < x.f1
        · simp [h5, h3, h4]
        · simp [h5, h3, h4]
theorem ltP_swo : Go.Sort.SWO (Go.Proofs.ltOf cmpP) where
  irrefl x := by rw [ltOf_cmpP]; unfold ltP; rw [decide_eq_false_iff_not]; omega
  trans x y z h1 h2 := by rw [ltOf_cmpP] at *; unfold ltP at *; rw [decide_eq_true_eq] at *; omega
  ntrans x y z h1 h2 := by rw [ltOf_cmpP] at *; unfold ltP at *; rw [decide_eq_false_iff_not] at *; omega
def insP (x : S34) : List S34 → List S34
  | [] => [x]
  | y :: l => if ltP y x = true then y :: insP x l else x :: y :: l
/-- Pegs in order. -/
def sortP : List S34 → List S34
  | [] => []
  | x :: l => insP x (sortP l)
theorem insP_perm (x : S34) (l : List S34) : (insP x l).Perm (x :: l) := by
  induction l with
  | nil => exact List.Perm.refl _
  | cons y l ih =>
    unfold insP
    split
    · exact (List.Perm.cons y ih).trans (List.Perm.swap x y l)
    · exact List.Perm.refl _
theorem sortP_perm (l : List S34) : (sortP l).Perm l := by
  induction l with
  | nil => exact List.Perm.refl _
  | cons x l ih => exact (insP_perm x (sortP l)).trans (List.Perm.cons x ih)
theorem ltP_total {x y : S34} (h1 : ltP x y = false) (h2 : ltP y x = false) : x = y := by
  unfold ltP at h1 h2
  rw [decide_eq_false_iff_not] at h1 h2
  obtain ⟨x0, x1⟩ := x
  obtain ⟨y0, y1⟩ := y
  simp only at h1 h2
  have e0 : x0 = y0 := by omega
  have e1 : x1 = y1 := by omega
  rw [e0, e1]
theorem ltP_le_trans {x y z : S34} (h1 : ltP y x = false) (h2 : ltP z y = false) : ltP z x = false := by
  unfold ltP at *
  rw [decide_eq_false_iff_not] at *
  omega
theorem insP_sorted (x : S34) (l : List S34) (h : l.Pairwise fun a b => ltP b a = false) : (insP x l).Pairwise fun a b => ltP b a = false := by
  induction l with
  | nil => exact List.pairwise_singleton _ _
  | cons y l ih =>
    rw [List.pairwise_cons] at h
    unfold insP
    split
    · rename_i hc
      rw [List.pairwise_cons]
      refine ⟨fun z hz => ?_, ih h.2⟩
      rcases List.mem_cons.1 ((insP_perm x l).subset hz) with rfl | hz
      · unfold ltP at *
        rw [decide_eq_true_eq] at hc
        rw [decide_eq_false_iff_not]
        omega
      · exact h.1 z hz
    · rename_i hc
      have hc' : ltP y x = false := by simpa using hc
      rw [List.pairwise_cons]
      refine ⟨fun z hz => ?_, List.pairwise_cons.2 h⟩
      rcases List.mem_cons.1 hz with rfl | hz
      · exact hc'
      · exact ltP_le_trans hc' (h.1 z hz)
theorem sortP_sorted (l : List S34) : (sortP l).Pairwise fun a b => ltP b a = false := by
  induction l with
  | nil => exact List.Pairwise.nil
  | cons x l ih => exact insP_sorted x _ ih
theorem sorted_one {a b : List S34} (hp : a.Perm b) (ha : a.Pairwise fun x y => ltP y x = false) (hb : b.Pairwise fun x y => ltP y x = false) : a = b := by
  induction a generalizing b with
  | nil => exact hp.nil_eq
  | cons x a ih =>
    cases b with
    | nil => exact absurd hp.length_eq (by simp)
    | cons y b =>
      rw [List.pairwise_cons] at ha hb
      have hxy : x = y := by
        have h1 : x ∈ y :: b := hp.subset (by simp)
        have h2 : y ∈ x :: a := hp.symm.subset (by simp)
        rcases List.mem_cons.1 h1 with h1 | h1
        · exact h1
        · rcases List.mem_cons.1 h2 with h2 | h2
          · exact h2.symm
          · exact ltP_total (hb.1 x h1 |> fun q => q) (ha.1 y h2) |> fun q => q
      subst hxy
      rw [ih (List.Perm.cons_inv hp) ha.2 hb.2]
def slices_SortFunc_impl_Peg_impl_Peg.f (l0 : List S34) : Option (List S34) := if l0.length < 4611686018427387904 then some (sortP l0) else none
theorem slices_SortFunc_impl_Peg_impl_Peg.calls (P0_ : Nat → Prop) (u9000_ : Value) (l0 : List S34) (r : List S34) (w0 w : World) (hB : Below w0.heap.size w0 w) (ho0 : Kd.R k34 34 w w0.heap.size P0_ u9000_ l0) (h : slices_SortFunc_impl_Peg_impl_Peg.f l0 = some r) :
    Calls Try.prog 89 #[u9000_, .func (.func 90) #[] #[]] w fun e w' => e = .returned (.tuple #[]) ∧ Kd.R k34 34 w' w0.heap.size (fun k_ => (P0_ k_ ∨ w.heap.size ≤ k_)) u9000_ r ∧ Below w0.heap.size w0 w' ∧ Kept w w' (fun k_ => P0_ k_) := by
  have hbig : l0.length < 4611686018427387904 := by
    rcases Nat.lt_or_ge l0.length 4611686018427387904 with h0 | h0
    · exact h0
    · unfold slices_SortFunc_impl_Peg_impl_Peg.f at h
      rw [if_neg (by omega)] at h
      cases h
  obtain rfl : sortP l0 = r := by
    unfold slices_SortFunc_impl_Peg_impl_Peg.f at h
    rw [if_pos hbig] at h
    exact Option.some.inj h
  rcases Nat.eq_zero_or_pos l0.length with hz | hne
  · obtain rfl : l0 = [] := List.length_eq_zero_iff.1 hz
    obtain ⟨A_, c_, rfl⟩ := Kd.R_slice ho0
    have hcon := Go.Proofs.AnyF.slices_SortFunc_none Try.sortPegs A_ c_ (.func (.func 90) #[] #[]) w
    change Calls Try.prog 89 _ _ _ at hcon
    refine hcon.mono fun e w' hq => ?_
    obtain ⟨rfl, rfl⟩ := hq
    exact ⟨rfl, Kd.R_mono ho0 (fun _ hk => .inl hk), hB, ⟨Nat.le_refl _, fun _ _ _ => rfl⟩⟩
  obtain ⟨g, cap, cur, rfl, hP, hg, hlt, hh, hl, hm, hs, hH⟩ := own_holdsK k34 34 encP34 rfl encP34_len kd_M34 ho0 hne
  have eg : ∀ args w, (callFunc 90 args).run Try.prog w = .ok (.enter 90 args) w := enters_of Try.func90 (by kernel_rfl) rfl
  have hcmp : Go.Proofs.CmpLays Try.prog 90 #[] encP34 2 cmpP g 0 l0.toArray.size w := fun m os dk _ x y =>
    (impl_comparePegs.callsD 4 x.f0 x.f1 y.f0 y.f1 (cmpP x y) _ (cmpP_eq x y)).mono fun e w' hq => ⟨hq.1, hq.2.grown⟩
  have hcon := Go.Proofs.AnyQ.slices_SortFunc Try.sortPegs 2 Try.isAgg34 Try.sizeOf34 encP34 encP34_len encP34_one cmpP ltP_swo 90 #[] g 0 cap l0.toArray w eg hcmp hH hlt (by simp only [List.size_toArray]; exact hbig)
  change Calls Try.prog 89 _ _ _ at hcon
  rw [List.size_toArray] at hcon
  refine hcon.mono fun e w' hq => ?_
  obtain ⟨rfl, d', m, os, ⟨hd, _, hperm⟩, hsort, rfl⟩ := hq
  rw [List.size_toArray] at hd
  obtain ⟨hR, hsz, hblk⟩ := sort_own k34 34 encP34 rfl encP34_len (fun w base ok x => k34_mkM w base ok x) (n := m) (os := os) hP hg hlt hh hl hm hs hd
  have hlist : d'.toList = sortP l0 := by
    have hds : d'.size = l0.length := by simpa using hd
    have e1 : (d'.extract 0 l0.length) = d' := by rw [← hds]; exact Array.extract_size
    have e2 : (l0.toArray.extract 0 l0.length) = l0.toArray := by rw [show l0.length = l0.toArray.size from rfl]; exact Array.extract_size
    rw [e1, e2] at hperm
    refine sorted_one (hperm.trans (sortP_perm l0).symm) ?_ (sortP_sorted l0)
    rw [List.pairwise_iff_getElem]
    intro i j hi hj hij
    have h1 := hsort i j (Nat.zero_le _) hij (by rw [← hds]; simpa using hj)
    rw [ltOf_cmpP, getElem!_pos d' j (by simpa using hj), getElem!_pos d' i (by simpa using hi)] at h1
    simpa using h1
  rw [hlist] at hR
  refine ⟨rfl, Kd.R_mono hR (fun _ hk => .inl hk), ⟨hB.os, hB.tape, hB.output, Nat.le_trans hB.size hsz, fun k hk => ?_⟩, ⟨hsz, fun k hk hn => hblk k hk (fun e_ => hn (e_ ▸ hP))⟩⟩
  rw [hblk k (Nat.lt_of_lt_of_le hk hB.size) (by omega)]
  exact hB.block k hk

/-! ### impl_sorted: function 55 -/
def impl_sorted.f (l0 : List (S34)) : Option ((List (S34))) := (slices_Clone_impl_Peg_impl_Peg.f l0).bind fun t246 => ((slices_SortFunc_impl_Peg_impl_Peg.f t246).bind fun t249 => (some t249))
set_option maxHeartbeats 8000000 in
set_option maxRecDepth 100000 in
theorem impl_sorted.calls (A0 : Option Addr) (c0 : Nat) (l0 : List (S34)) (r : List (S34)) (w : World) (hr0 : Kd.C k34 w A0 l0.length l0) (hc0 : l0.length ≤ c0) (h : impl_sorted.f l0 = some r) :
    Calls Try.prog 55 #[.slice A0 l0.length c0] w fun e w' => ∃ v0_ : Value, e = .returned (v0_) ∧ Kd.R k34 34 w' w.heap.size (fun _ => True) v0_ r ∧ Below w.heap.size w w' := by
  have HR0 := Aside0.mk hr0
  have HC0 := Aside0.mk hc0
  clear hr0 hc0
  have HB := Aside0.mk (Below.refl w.heap.size w)
  have H : ((slices_Clone_impl_Peg_impl_Peg.f l0).bind fun t246 => ((slices_SortFunc_impl_Peg_impl_Peg.f t246).bind fun t249 => (some t249))) = some r := h
  clear h
  replace H := Option.bind_eq_some_iff.mp H
  obtain ⟨t246, A20, H⟩ := H
  replace H : ((slices_SortFunc_impl_Peg_impl_Peg.f t246).bind fun t249 => (some t249)) = some r := H
  have A2 := Aside0.mk A20
  clear A20
  replace H := Option.bind_eq_some_iff.mp H
  obtain ⟨t249, A30, H⟩ := H
  replace H : (some t249) = some r := H
  have A3 := Aside0.mk A30
  clear A30
  obtain rfl := Option.some.inj H
  go_enter Try.func55, Try.ntmps55
  go_wp2_with (first | ((with_reducible refine gate_callee (f := 88) rfl ?_); refine goesL_ (some 5) rfl rfl Try.func88 (by kernel_rfl) rfl #[.slice A0 l0.length c0] rfl (by (try simp only [List.map_toArray, List.map_cons, List.map_nil]); first | done | rfl | (simp only [List.length_drop, List.length_take]; rfl)) ?_; (with_reducible refine (slices_Clone_impl_Peg_impl_Peg.calls _ _ l0 t246 _ ?side1 ?side2 A2.out).mono ?_); (case side1 => repeat (first | exact HR0.out | (with_reducible refine Kd.C_alloc ?_ _) | (with_reducible refine Kd.C_drewN ?_ _) | (with_reducible refine Kd.C_drew ?_))); (case side2 => exact HC0.out); rintro e w4 ⟨v247, rfl, ho0, hb⟩; refine ⟨_, rfl, ?_⟩; have n0_ := Aside0.mk (Kd.R_lower ho0 (below_size (hb_))); have n1_ := Aside0.mk (below_step (hb_) hb); clear HB; have HO248 := n0_; have HB := n1_; clear n0_ n1_; (try clear hb); (try clear hb2); (try clear hk); (try clear hi); (try clear ho0); obtain ⟨Ao5, co5, eo5⟩ := Kd.R_slice HO248.out; subst eo5) | ((with_reducible refine gate_callee (f := 89) rfl ?_); refine goesL_ (some 7) rfl rfl Try.func89 (by kernel_rfl) rfl #[.slice Ao5 t246.length co5, .func (.func 90) #[] #[]] rfl (by (try simp only [List.map_toArray, List.map_cons, List.map_nil]); first | done | rfl | (simp only [List.length_drop, List.length_take]; rfl)) ?_; (with_reducible refine (slices_SortFunc_impl_Peg_impl_Peg.calls (fun k_ => some k_ = (.slice Ao5 t246.length co5 : Value).ownBlock) (.slice Ao5 t246.length co5) t246  t249 w _ ?side1 ?side2 A3.out).mono ?_); (case side1 => repeat (first | (with_reducible first | exact HB.out | apply below_alloc | apply pw_below_drewN | apply below_drew1) | exact HB.out)); (case side2 => exact Kd.R_tight rfl HO248.out); rintro e w6 ⟨rfl, hy0, hb, hkp⟩; refine ⟨_, rfl, ?_⟩; have n0_ := Aside0.mk (Kd.R_reok rfl hy0 (fun k_ e_ => HO248.out.1 k_ e_)); have n1_ := Aside0.mk (hb); clear HO248; clear HB; have HO248 := n0_; have HB := n1_; clear n0_ n1_; (try clear hb); (try clear hkp); (try clear hy0)))
  go_ret
  exact ⟨_, by first | rfl | (simp [errW_none, errW_some] <;> rfl) | (simp [*, errW_none, errW_some] <;> rfl), by (with_reducible repeat (first | apply Kd.R_alloc | apply Kd.R_drewN | apply Kd.R_drew)); exact HO248.out, hb_⟩

/-! ### slices_Grow_impl_Peg_impl_Peg: function 95 -/
def slices_Grow_impl_Peg_impl_Peg.f  (a1 : Int) : Option ((List (S34))) := if a1 < 0 then (none) else (if (wrap64 (a1)) > 0 then (if 0 ≤ (wrap64 (a1)) then (if ([] : List (S34)).length + (wrap64 (a1) : Int).toNat < 8796093022208 then ((some (([] : List (S34)) ++ List.replicate (wrap64 (a1) : Int).toNat z34 : List (S34))).bind fun y250 => (if 0 ≤ (y250.length : Int) then (some (y250.take (0 : Int).toNat)) else (none))) else (none)) else (none)) else (some ([] : List (S34))))
set_option maxHeartbeats 8000000 in
set_option maxRecDepth 100000 in
theorem slices_Grow_impl_Peg_impl_Peg.calls  (a1 : Int) (r : List (S34)) (w : World) (h : slices_Grow_impl_Peg_impl_Peg.f a1 = some r) :
    Calls Try.prog 95 #[.slice none 0 0, .int .i64 a1] w fun e w' => ∃ v0_ : Value, e = .returned (v0_) ∧ Kd.R k34 34 w' w.heap.size (fun _ => True) v0_ r ∧ Below w.heap.size w w' := by
  have HB := Aside0.mk (Below.refl w.heap.size w)
  have H : (if a1 < 0 then (none) else (if (wrap64 (a1)) > 0 then (if 0 ≤ (wrap64 (a1)) then (if ([] : List (S34)).length + (wrap64 (a1) : Int).toNat < 8796093022208 then ((some (([] : List (S34)) ++ List.replicate (wrap64 (a1) : Int).toNat z34 : List (S34))).bind fun y250 => (if 0 ≤ (y250.length : Int) then (some (y250.take (0 : Int).toNat)) else (none))) else (none)) else (none)) else (some ([] : List (S34))))) = some r := h
  clear h
  by_cases c3 : a1 < 0
  · rw [if_pos c3] at H
    exact absurd H (by simp)
  · rw [if_neg c3] at H
    have c3b0 : decide (a1 < 0) = false := decide_eq_false c3
    clear c3
    by_cases c4 : (wrap64 (a1)) > 0
    · rw [if_pos c4] at H
      have c4b0 : decide (0 < (wrap64 (a1))) = true := decide_eq_true c4
      clear c4
      obtain ⟨ji5, hji5⟩ : ∃ j_ : Int, (wrap64 (a1)) = j_ := ⟨_, rfl⟩
      replace H : (if 0 ≤ (ji5) then (if ([] : List (S34)).length + (ji5 : Int).toNat < 8796093022208 then ((some (([] : List (S34)) ++ List.replicate (ji5 : Int).toNat z34 : List (S34))).bind fun y250 => (if 0 ≤ (y250.length : Int) then (some (y250.take (0 : Int).toNat)) else (none))) else (none)) else (none)) = some r := by first | (rw [hji5] at H; exact H) | (simp only [hji5] at H ⊢; exact H)
      (try rw [hji5] at c4b0)
      have hji5w : (IntKind.i64.wrap (a1)) = ji5 := (i64_w _).trans hji5
      by_cases c6 : 0 ≤ (ji5)
      · rw [if_pos c6] at H
        have c6b0 := eq_true c6
        have c6b1 : decide (0 ≤ (ji5)) = true := decide_eq_true c6
        clear c6
        by_cases c7 : ([] : List (S34)).length + (ji5 : Int).toNat < 8796093022208
        · rw [if_pos c7] at H
          have LMc7 := Aside0.mk c7
          clear c7
          obtain ⟨y250, hy250⟩ : ∃ y_ : List (S34), y_ = (([] : List (S34)) ++ List.replicate (ji5 : Int).toNat z34) := ⟨_, rfl⟩
          replace H : (if 0 ≤ (y250.length : Int) then (some (y250.take (0 : Int).toNat)) else (none)) = some r := by first | (rw [hy250]; with_reducible exact H) | (have H2_ := (Option.bind_some _ _).symm.trans H; rw [hy250]; with_reducible exact H2_) | (have H2_ := (Option.bind_some _ _).symm.trans H; with_reducible exact H2_) | with_reducible exact H | (rw [hy250]; exact H) | exact H
          have Ny250 := Aside0.mk hy250
          clear hy250
          by_cases c8 : 0 ≤ (y250.length : Int)
          · rw [if_pos c8] at H
            have c8b0 := eq_true c8
            have c8b1 : decide (0 ≤ (y250.length : Int)) = true := decide_eq_true c8
            clear c8
            obtain ⟨y253, hy253⟩ : ∃ y_ : List (S34), y_ = (y250.take (0 : Int).toNat) := ⟨_, rfl⟩
            replace H : (some y253) = some r := by first | (rw [hy253]; with_reducible exact H) | (have H2_ := (Option.bind_some _ _).symm.trans H; rw [hy253]; with_reducible exact H2_) | (have H2_ := (Option.bind_some _ _).symm.trans H; with_reducible exact H2_) | with_reducible exact H | (rw [hy253]; exact H) | exact H
            have Ny253 := Aside0.mk hy253
            clear hy253
            obtain rfl := Option.some.inj H
            go_enter Try.func95, Try.ntmps95
            go_wp2_with (first | (at_builtin; refine Kd.R_append_zeros k34 (w0 := w) w.heap.size rfl (.tmp 20) (.tmp 21) 25 3 34 (.agg #[(.int .i64 0), (.int .i64 0)]) 16 rfl Try.underlying25 Try.underlying3 info34 rfl (by decide) (by omega) (.slice none 0 0) ([] : List (S34)) z34 (ji5 : Int) (fun _ => True) rfl rfl (k34_mkM _ _ _ z34 ) ?aF ?aO (odt_) ?aB ?aS ?aL ?_; (case aB => exact (hb_)); (case aF => exact (fun _ _ => trivial)); (case aO => exact ((Kd.R_nil _ _ _ _ (fun _ => True)))); (case aS => exact (below_size (hb_))); (case aL => have := LMc7.out; omega); intro v251 w9 ho hb hg hat; rw [← Ny250.out] at ho; have n0_ := Aside0.mk (hb); have n1_ := Aside0.mk (ho); clear HB; have HB := n0_; have HO252 := n1_; clear n0_ n1_; clear ho hb hg hat; obtain ⟨Ao10, co10, eo10⟩ := Kd.R_slice HO252.out; subst eo10; have q11 : (0 : Int) ≤ ((y250.length : Int) : Int) := odt_; obtain ⟨i011, hi011, _, hsz11, _⟩ := info_parts info34; have hcut11 := cut_to (P := Try.prog) 25 34 .i64 Try.underlying25 hi011 Ao10 y250.length co10 0 (by omega) q11 (Kd.R_reads' HO252.out).2.1; have hr11 := Kd.R_take (m := (0 : Int).toNat) HO252.out (by omega); have hy11 : y253.length = (0 : Int).toNat := (by rw [Ny253.out, List.length_take]; omega); rw [← Ny253.out] at hr11; rw [← hy11] at hr11 hcut11; clear hy11 hi011 hsz11 HO252; have HO255 := Aside0.mk hr11; clear hr11; replace q11 := eq_true q11))
            go_ret
            exact ⟨_, by first | rfl | (simp [errW_none, errW_some] <;> rfl) | (simp only [← hji5]; first | rfl | (simp [errW_none, errW_some] <;> rfl)) | (simp [*, errW_none, errW_some] <;> rfl), by (with_reducible repeat (first | apply Kd.R_alloc | apply Kd.R_drewN | apply Kd.R_drew)); exact HO255.out, hb_⟩
          · rw [if_neg c8] at H
            exact absurd H (by simp)
        · rw [if_neg c7] at H
          exact absurd H (by simp)
      · rw [if_neg c6] at H
        exact absurd H (by simp)
    · rw [if_neg c4] at H
      have c4b0 : decide (0 < (wrap64 (a1))) = false := decide_eq_false c4
      clear c4
      obtain rfl := Option.some.inj H
      go_enter Try.func95, Try.ntmps95
      go_wp2
      go_ret
      exact ⟨_, by first | rfl | (simp [errW_none, errW_some] <;> rfl) | (simp [*, errW_none, errW_some] <;> rfl), by first | exact Kd.R_nil _ _ _ _ _ | exact Kd.N_nil _ _ _ _ _ | exact Kd.V_nil _ _ _ _ _ | exact Kd.Q_nil _ _ _ _ _ | exact Kd.S_nil _ _ _ _ _, hb_⟩

end Go.Proofs.Ytaclbccjcjdbpaa.MY
