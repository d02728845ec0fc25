-- Written by a program of this session (wip/print/myprint.py) over the kit's printer; Lean checks it.
import Derived.Test.YtaclbccjcjdbpaaMFx0
import Derived.Test.YtaclbccjcjdbpaaMFx11
import Derived.Test.YtaclbccjcjdbpaaMFx12
namespace Go.Proofs.Ytaclbccjcjdbpaa.MF
open Go.RowKit Go.Proofs.YtaclbccjcjdbpaaW.PrintWords Go.Proofs.YtaclbccjcjdbpaaW.PrintLast Go.Proofs.YtaclbccjcjdbpaaW.PrintMore Go.Proofs.YtaclbccjcjdbpaaV
attribute [local go_sem] max2_int min2_int max_two min_two max_three min_three max_four min_four   -- for this text's walks alone
set_option linter.unusedVariables false
set_option linter.unusedSimpArgs false

/-! ### slices_SortFunc_impl_Peg_impl_Peg: function 89 (a contract by hand, over the library's shelf) -/
instance : Inhabited S34 := ⟨z34⟩
instance : DecidableEq S34 := fun a b => if h : a.f0 = b.f0 ∧ a.f1 = b.f1 then isTrue (by cases a; cases b; simp only at h; simp [h]) else isFalse (fun e => h (by subst e; exact ⟨rfl, rfl⟩))
/-- An element's cells. -/
def encP34 (x : S34) : List Value := [.int .i64 x.f0, .int .i64 x.f1]
theorem encP34_len (x : S34) : (encP34 x).length = 2 := rfl
theorem encP34_one (x : S34) (v : Value) (hv : v ∈ encP34 x) : v.oneCell' = true := by
  simp [encP34] at hv
  rcases hv with rfl | rfl <;> rfl
theorem kd_M34 (w : World) (base : Nat) (ok : Nat → Prop) (x : S34) (cs : List Value) (h : k34.M w base ok x cs) : cs = encP34 x := k34_openM h
/-- How two pegs compare. -/
def cmpP (x y : S34) : Int := if x.f0 < y.f0 then -1 else if y.f0 < x.f0 then 1 else if x.f1 < y.f1 then -1 else if y.f1 < x.f1 then 1 else 0
theorem cmpP_eq (x y : S34) : impl_comparePegs.f 4 x.f0 x.f1 y.f0 y.f1 = some (cmpP x y) := by
  unfold impl_comparePegs.f cmp_Compare_int.f cmp_Or_int.f cmpP
  by_cases h1 : x.f0 < y.f0
  · by_cases h3 : x.f1 < y.f1
    · simp [h1, h3, cmp_Or_int.l0, cmp_isNaN_int.f, rd, wrap64]
    · by_cases h4 : y.f1 < x.f1
      · simp [h1, h3, h4, cmp_Or_int.l0, cmp_isNaN_int.f, rd, wrap64]
      · simp [h1, h3, h4, cmp_Or_int.l0, cmp_isNaN_int.f, rd, wrap64]
  · by_cases h2 : y.f0 < x.f0
    · by_cases h3 : x.f1 < y.f1
      · simp [h1, h2, h3, cmp_Or_int.l0, cmp_isNaN_int.f, rd, wrap64]
      · by_cases h4 : y.f1 < x.f1
        · simp [h1, h2, h3, h4, cmp_Or_int.l0, cmp_isNaN_int.f, rd, wrap64]
        · simp [h1, h2, h3, h4, cmp_Or_int.l0, cmp_isNaN_int.f, rd, wrap64]
    · by_cases h3 : x.f1 < y.f1
      · simp [h1, h2, h3, cmp_Or_int.l0, cmp_isNaN_int.f, rd, wrap64]
      · by_cases h4 : y.f1 < x.f1
        · simp [h1, h2, h3, h4, cmp_Or_int.l0, cmp_isNaN_int.f, rd, wrap64]
        · simp [h1, h2, h3, h4, cmp_Or_int.l0, cmp_isNaN_int.f, rd, wrap64]
/-- One peg comes ahead of the other one. -/
def ltP (x y : S34) : Bool := decide (x.f0 < y.f0 ∨ (x.f0 = y.f0 ∧ x.f1 < y.f1))
theorem ltOf_cmpP (x y : S34) : Go.Proofs.ltOf cmpP x y = ltP x y := by
  unfold Go.Proofs.ltOf cmpP ltP
  by_cases h1 : x.f0 < y.f0
  · simp [h1]
  · by_cases h2 : y.f0 < x.f0
    · have h5 : ¬ x.f0 = y.f0 := by omega
      simp [h1, h2, h5]
    · have h5 : x.f0 = y.f0 := by omega
      by_cases h3 : x.f1 < y.f1
      · simp [h5, h3]
      · by_cases h4 : y.f1 < x.f1
        · simp [h5, h3, h4]
        · simp [h5, h3, h4]
theorem ltP_swo : Go.Sort.SWO (Go.Proofs.ltOf cmpP) where
  irrefl x := by rw [ltOf_cmpP]; unfold ltP; rw [decide_eq_false_iff_not]; omega
  trans x y z h1 h2 := by rw [ltOf_cmpP] at *; unfold ltP at *; rw [decide_eq_true_eq] at *; omega
  ntrans x y z h1 h2 := by rw [ltOf_cmpP] at *; unfold ltP at *; rw [decide_eq_false_iff_not] at *; omega
def insP (x : S34) : List S34 → List S34
  | [] => [x]
  | y :: l => if ltP y x = true then y :: insP x l else x :: y :: l
/-- Pegs in order. -/
def sortP : List S34 → List S34
  | [] => []
  | x :: l => insP x (sortP l)
theorem insP_perm (x : S34) (l : List S34) : (insP x l).Perm (x :: l) := by
  induction l with
  | nil => exact List.Perm.refl _
  | cons y l ih =>
    unfold insP
    split
    · exact (List.Perm.cons y ih).trans (List.Perm.swap x y l)
    · exact List.Perm.refl _
theorem sortP_perm (l : List S34) : (sortP l).Perm l := by
  induction l with
  | nil => exact List.Perm.refl _
  | cons x l ih => exact (insP_perm x (sortP l)).trans (List.Perm.cons x ih)
theorem ltP_total {x y : S34} (h1 : ltP x y = false) (h2 : ltP y x = false) : x = y := by
  unfold ltP at h1 h2
  rw [decide_eq_false_iff_not] at h1 h2
  obtain ⟨x0, x1⟩ := x
  obtain ⟨y0, y1⟩ := y
  simp only at h1 h2
  have e0 : x0 = y0 := by omega
  have e1 : x1 = y1 := by omega
  rw [e0, e1]
theorem ltP_le_trans {x y z : S34} (h1 : ltP y x = false) (h2 : ltP z y = false) : ltP z x = false := by
  unfold ltP at *
  rw [decide_eq_false_iff_not] at *
  omega
theorem insP_sorted (x : S34) (l : List S34) (h : l.Pairwise fun a b => ltP b a = false) : (insP x l).Pairwise fun a b => ltP b a = false := by
  induction l with
  | nil => exact List.pairwise_singleton _ _
  | cons y l ih =>
    rw [List.pairwise_cons] at h
    unfold insP
    split
    · rename_i hc
      rw [List.pairwise_cons]
      refine ⟨fun z hz => ?_, ih h.2⟩
      rcases List.mem_cons.1 ((insP_perm x l).subset hz) with rfl | hz
      · unfold ltP at *
        rw [decide_eq_true_eq] at hc
        rw [decide_eq_false_iff_not]
        omega
      · exact h.1 z hz
    · rename_i hc
      have hc' : ltP y x = false := by simpa using hc
      rw [List.pairwise_cons]
      refine ⟨fun z hz => ?_, List.pairwise_cons.2 h⟩
      rcases List.mem_cons.1 hz with rfl | hz
      · exact hc'
      · exact ltP_le_trans hc' (h.1 z hz)
theorem sortP_sorted (l : List S34) : (sortP l).Pairwise fun a b => ltP b a = false := by
  induction l with
  | nil => exact List.Pairwise.nil
  | cons x l ih => exact insP_sorted x _ ih
theorem sorted_one {a b : List S34} (hp : a.Perm b) (ha : a.Pairwise fun x y => ltP y x = false) (hb : b.Pairwise fun x y => ltP y x = false) : a = b := by
  induction a generalizing b with
  | nil => exact hp.nil_eq
  | cons x a ih =>
    cases b with
    | nil => exact absurd hp.length_eq (by simp)
    | cons y b =>
      rw [List.pairwise_cons] at ha hb
      have hxy : x = y := by
        have h1 : x ∈ y :: b := hp.subset (by simp)
        have h2 : y ∈ x :: a := hp.symm.subset (by simp)
        rcases List.mem_cons.1 h1 with h1 | h1
        · exact h1
        · rcases List.mem_cons.1 h2 with h2 | h2
          · exact h2.symm
          · exact ltP_total (hb.1 x h1 |> fun q => q) (ha.1 y h2) |> fun q => q
      subst hxy
      rw [ih (List.Perm.cons_inv hp) ha.2 hb.2]
def slices_SortFunc_impl_Peg_impl_Peg.f (l0 : List S34) : Option (List S34) := if l0.length < 4611686018427387904 then some (sortP l0) else none
theorem slices_SortFunc_impl_Peg_impl_Peg.calls (P0_ : Nat → Prop) (u9000_ : Value) (l0 : List S34) (r : List S34) (w0 w : World) (hB : Below w0.heap.size w0 w) (ho0 : Kd.R k34 34 w w0.heap.size P0_ u9000_ l0) (h : slices_SortFunc_impl_Peg_impl_Peg.f l0 = some r) :
    Calls Try.prog 89 #[u9000_, .func (.func 90) #[] #[]] w fun e w' => e = .returned (.tuple #[]) ∧ Kd.R k34 34 w' w0.heap.size (fun k_ => (P0_ k_ ∨ w.heap.size ≤ k_)) u9000_ r ∧ Below w0.heap.size w0 w' ∧ Kept w w' (fun k_ => P0_ k_) := by
  have hbig : l0.length < 4611686018427387904 := by
    rcases Nat.lt_or_ge l0.length 4611686018427387904 with h0 | h0
    · exact h0
    · unfold slices_SortFunc_impl_Peg_impl_Peg.f at h
      rw [if_neg (by omega)] at h
      cases h
  obtain rfl : sortP l0 = r := by
    unfold slices_SortFunc_impl_Peg_impl_Peg.f at h
    rw [if_pos hbig] at h
    exact Option.some.inj h
  rcases Nat.eq_zero_or_pos l0.length with hz | hne
  · obtain rfl : l0 = [] := List.length_eq_zero_iff.1 hz
    obtain ⟨A_, c_, rfl⟩ := Kd.R_slice ho0
    have hcon := Go.Proofs.AnyF.slices_SortFunc_none Try.sortPegs A_ c_ (.func (.func 90) #[] #[]) w
    change Calls Try.prog 89 _ _ _ at hcon
    refine hcon.mono fun e w' hq => ?_
    obtain ⟨rfl, rfl⟩ := hq
    exact ⟨rfl, Kd.R_mono ho0 (fun _ hk => .inl hk), hB, ⟨Nat.le_refl _, fun _ _ _ => rfl⟩⟩
  obtain ⟨g, cap, cur, rfl, hP, hg, hlt, hh, hl, hm, hs, hH⟩ := own_holdsK k34 34 encP34 rfl encP34_len kd_M34 ho0 hne
  have eg : ∀ args w, (callFunc 90 args).run Try.prog w = .ok (.enter 90 args) w := enters_of Try.func90 (by kernel_rfl) rfl
  have hcmp : Go.Proofs.CmpLays Try.prog 90 #[] encP34 2 cmpP g 0 l0.toArray.size w := fun m os dk _ x y =>
    (impl_comparePegs.callsD 4 x.f0 x.f1 y.f0 y.f1 (cmpP x y) _ (cmpP_eq x y)).mono fun e w' hq => ⟨hq.1, hq.2.grown⟩
  have hcon := Go.Proofs.AnyQ.slices_SortFunc Try.sortPegs 2 Try.isAgg34 Try.sizeOf34 encP34 encP34_len encP34_one cmpP ltP_swo 90 #[] g 0 cap l0.toArray w eg hcmp hH hlt (by simp only [List.size_toArray]; exact hbig)
  change Calls Try.prog 89 _ _ _ at hcon
  rw [List.size_toArray] at hcon
  refine hcon.mono fun e w' hq => ?_
  obtain ⟨rfl, d', m, os, ⟨hd, _, hperm⟩, hsort, rfl⟩ := hq
  rw [List.size_toArray] at hd
  obtain ⟨hR, hsz, hblk⟩ := sort_own k34 34 encP34 rfl encP34_len (fun w base ok x => k34_mkM w base ok x) (n := m) (os := os) hP hg hlt hh hl hm hs hd
  have hlist : d'.toList = sortP l0 := by
    have hds : d'.size = l0.length := by simpa using hd
    have e1 : (d'.extract 0 l0.length) = d' := by rw [← hds]; exact Array.extract_size
    have e2 : (l0.toArray.extract 0 l0.length) = l0.toArray := by rw [show l0.length = l0.toArray.size from rfl]; exact Array.extract_size
    rw [e1, e2] at hperm
    refine sorted_one (hperm.trans (sortP_perm l0).symm) ?_ (sortP_sorted l0)
    rw [List.pairwise_iff_getElem]
    intro i j hi hj hij
    have h1 := hsort i j (Nat.zero_le _) hij (by rw [← hds]; simpa using hj)
    rw [ltOf_cmpP, getElem!_pos d' j (by simpa using hj), getElem!_pos d' i (by simpa using hi)] at h1
    simpa using h1
  rw [hlist] at hR
  refine ⟨rfl, Kd.R_mono hR (fun _ hk => .inl hk), ⟨hB.os, hB.tape, hB.output, Nat.le_trans hB.size hsz, fun k hk => ?_⟩, ⟨hsz, fun k hk hn => hblk k hk (fun e_ => hn (e_ ▸ hP))⟩⟩
  rw [hblk k (Nat.lt_of_lt_of_le hk hB.size) (by omega)]
  exact hB.block k hk

/-! ### impl_sorted: function 55 -/
def impl_sorted.f (l0 : List (S34)) : Option ((List (S34))) := (slices_Clone_impl_Peg_impl_Peg.f l0).bind fun t243 => ((slices_SortFunc_impl_Peg_impl_Peg.f t243).bind fun t246 => (some t246))
set_option maxHeartbeats 8000000 in
set_option maxRecDepth 100000 in
theorem impl_sorted.calls (A0 : Option Addr) (c0 : Nat) (l0 : List (S34)) (r : List (S34)) (w : World) (hr0 : Kd.C k34 w A0 l0.length l0) (hc0 : l0.length ≤ c0) (h : impl_sorted.f l0 = some r) :
    Calls Try.prog 55 #[.slice A0 l0.length c0] w fun e w' => ∃ v0_ : Value, e = .returned (v0_) ∧ Kd.R k34 34 w' w.heap.size (fun _ => True) v0_ r ∧ Below w.heap.size w w' := by
  have HR0 := Aside0.mk hr0
  have HC0 := Aside0.mk hc0
  clear hr0 hc0
  have HB := Aside0.mk (Below.refl w.heap.size w)
  have H : ((slices_Clone_impl_Peg_impl_Peg.f l0).bind fun t243 => ((slices_SortFunc_impl_Peg_impl_Peg.f t243).bind fun t246 => (some t246))) = some r := h
  clear h
  replace H := Option.bind_eq_some_iff.mp H
  obtain ⟨t243, A20, H⟩ := H
  replace H : ((slices_SortFunc_impl_Peg_impl_Peg.f t243).bind fun t246 => (some t246)) = some r := H
  have A2 := Aside0.mk A20
  clear A20
  replace H := Option.bind_eq_some_iff.mp H
  obtain ⟨t246, A30, H⟩ := H
  replace H : (some t246) = some r := H
  have A3 := Aside0.mk A30
  clear A30
  obtain rfl := Option.some.inj H
  go_enter Try.func55, Try.ntmps55
  go_wp2_with (first | ((with_reducible refine gate_callee (f := 88) rfl ?_); refine goesL_ (some 5) rfl rfl Try.func88 (by kernel_rfl) rfl #[.slice A0 l0.length c0] rfl ga_ ?_; (with_reducible refine (slices_Clone_impl_Peg_impl_Peg.calls _ _ l0 t243 _ ?side1 ?side2 A2.out).mono ?_); (case side1 => repeat (first | exact HR0.out | (with_reducible refine Kd.C_alloc ?_ _) | (with_reducible refine Kd.C_drewN ?_ _) | (with_reducible refine Kd.C_drew ?_))); (case side2 => exact HC0.out); rintro e w4 ⟨v244, rfl, ho0, hb⟩; refine ⟨_, rfl, ?_⟩; have n0_ := Aside0.mk (Kd.R_lower ho0 (below_size (hb_))); have n1_ := Aside0.mk (below_step (hb_) hb); clear HB; have HO245 := n0_; have HB := n1_; clear n0_ n1_; (try clear hb); (try clear hb2); (try clear hk); (try clear hi); (try clear ho0); obtain ⟨Ao5, co5, eo5⟩ := Kd.R_slice HO245.out; subst eo5) | ((with_reducible refine gate_callee (f := 89) rfl ?_); refine goesL_ (some 7) rfl rfl Try.func89 (by kernel_rfl) rfl #[.slice Ao5 t243.length co5, .func (.func 90) #[] #[]] rfl ga_ ?_; (with_reducible refine (slices_SortFunc_impl_Peg_impl_Peg.calls (fun k_ => some k_ = (.slice Ao5 t243.length co5 : Value).ownBlock) (.slice Ao5 t243.length co5) t243  t246 w _ ?side1 ?side2 A3.out).mono ?_); (case side1 => repeat (first | (with_reducible first | exact HB.out | apply below_alloc | apply pw_below_drewN | apply below_drew1) | exact HB.out)); (case side2 => exact Kd.R_tight rfl HO245.out); rintro e w6 ⟨rfl, hy0, hb, hkp⟩; refine ⟨_, rfl, ?_⟩; have n0_ := Aside0.mk (Kd.R_reok rfl hy0 (fun k_ e_ => HO245.out.1 k_ e_)); have n1_ := Aside0.mk (hb); clear HO245; clear HB; have HO245 := n0_; have HB := n1_; clear n0_ n1_; (try clear hb); (try clear hkp); (try clear hy0)))
  go_ret
  exact ⟨_, by first | rfl | (simp [errW_none, errW_some] <;> rfl) | (simp [*, errW_none, errW_some] <;> rfl), by (with_reducible repeat (first | apply Kd.R_alloc | apply Kd.R_drewN | apply Kd.R_drew)); exact HO245.out, hb_⟩

/-! ### impl_Peg_less: function 61 -/
def impl_Peg_less.f (a0_0 : Int) (a0_1 : Int) (a1_0 : Int) (a1_1 : Int) : Option (Int × Int) := some (wrap64 (a0_0 - a1_0), wrap64 (a0_1 - a1_1))
set_option maxHeartbeats 8000000 in
set_option maxRecDepth 100000 in
theorem impl_Peg_less.calls (a0_0 : Int) (a0_1 : Int) (a1_0 : Int) (a1_1 : Int) (r1 : Int) (r2 : Int) (w : World) (h : impl_Peg_less.f a0_0 a0_1 a1_0 a1_1 = some (r1, r2)) :
    Calls Try.prog 61 #[.agg #[.int .i64 a0_0, .int .i64 a0_1], .agg #[.int .i64 a1_0, .int .i64 a1_1]] w fun e w' => e = .returned (.agg #[.int .i64 r1, .int .i64 r2]) ∧ Below w.heap.size w w' := by
  have hu34 := Try.underlying34
  have HB := Aside0.mk (Below.refl w.heap.size w)
  have H : (some (wrap64 (a0_0 - a1_0), wrap64 (a0_1 - a1_1))) = some (r1, r2) := h
  clear h
  simp only [Option.some.injEq, Prod.mk.injEq] at H
  obtain ⟨rfl, rfl⟩ := H
  go_enter Try.func61, Try.ntmps61
  go_wp2_with (first | ((with_reducible refine gate_dst (N := 2) rfl ?_); refine box_event ?hg (N := 2) ?hd (cs := #[.int .i64 a0_0, .int .i64 a0_1]) (t := 34) ?hr ?_; (case hd => rfl); (case hg => rfl); (case hr => first | (go_simp; done) | (go_simp; rfl)); intro gb247 hg w3 hbox hb; have n0_ := Aside0.mk (below_step (hb_) hb); have n1_ := Aside0.mk (hbox); have n2_ := Aside0.mk ((by rw [hg]; exact (below_size (hb_)) : w.heap.size ≤ gb247)); have n3_ := Aside0.mk ((by rw [hg]; exact (below_size (hb_)) : w.heap.size ≤ gb247)); clear HB; have HB := n0_; have BK247 := n1_; have GW247 := n2_; have GE247 := n3_; clear n0_ n1_ n2_ n3_; clear hb hbox hg) | ((with_reducible refine gate_dst (N := 3) rfl ?_); refine box_event ?hg (N := 3) ?hd (cs := #[.int .i64 a1_0, .int .i64 a1_1]) (t := 34) ?hr ?_; (case hd => rfl); (case hg => rfl); (case hr => first | (go_simp; done) | (go_simp; rfl)); intro gb248 hg w4 hbox hb; have n0_ := bb_ BK247 hb; have n1_ := Aside0.mk (below_step (hbg_) hb); have n2_ := Aside0.mk (hbox); have n3_ := Aside0.mk ((by rw [hg]; exact (below_size (hbg_)) : w.heap.size ≤ gb248)); have n4_ := Aside0.mk ((by rw [hg]; exact (below_size (hbg_)) : w.heap.size ≤ gb248)); have n5_ := Aside0.mk ((by rw [hg]; exact Nat.ne_of_lt (blk_lt (bk_ BK247.out)) : gb247 ≠ gb248)); have n6_ := Aside0.mk ((by rw [hg]; exact Nat.ne_of_gt (blk_lt (bk_ BK247.out)) : gb248 ≠ gb247)); clear BK247; clear HB; have BK247 := n0_; have HB := n1_; have BK248 := n2_; have GW248 := n3_; have GE248 := n4_; have NB247_248 := n5_; have NB248_247 := n6_; clear n0_ n1_ n2_ n3_ n4_ n5_ n6_; clear hb hbox hg) | ((with_reducible refine gate_dst (N := 4) rfl ?_); refine box_event ?hg (N := 4) ?hd (cs := #[.int .i64 0, .int .i64 0]) (t := 34) ?hr ?_; (case hd => rfl); (case hg => rfl); (case hr => first | (go_simp; done) | (go_simp; rfl)); intro gb249 hg w5 hbox hb; have n0_ := bb_ BK247 hb; have n1_ := bb_ BK248 hb; have n2_ := Aside0.mk (below_step (hbg_) hb); have n3_ := Aside0.mk (hbox); have n4_ := Aside0.mk ((by rw [hg]; exact (below_size (hbg_)) : w.heap.size ≤ gb249)); have n5_ := Aside0.mk ((by rw [hg]; exact (below_size (hbg_)) : w.heap.size ≤ gb249)); have n6_ := Aside0.mk ((by rw [hg]; exact Nat.ne_of_lt (blk_lt (bk_ BK247.out)) : gb247 ≠ gb249)); have n7_ := Aside0.mk ((by rw [hg]; exact Nat.ne_of_gt (blk_lt (bk_ BK247.out)) : gb249 ≠ gb247)); have n8_ := Aside0.mk ((by rw [hg]; exact Nat.ne_of_lt (blk_lt (bk_ BK248.out)) : gb248 ≠ gb249)); have n9_ := Aside0.mk ((by rw [hg]; exact Nat.ne_of_gt (blk_lt (bk_ BK248.out)) : gb249 ≠ gb248)); clear BK247; clear BK248; clear HB; have BK247 := n0_; have BK248 := n1_; have HB := n2_; have BK249 := n3_; have GW249 := n4_; have GE249 := n5_; have NB247_249 := n6_; have NB249_247 := n7_; have NB248_249 := n8_; have NB249_248 := n9_; clear n0_ n1_ n2_ n3_ n4_ n5_ n6_ n7_ n8_ n9_; clear hb hbox hg; have hnb6 := NB247_248.out; have hnc6 := NB248_247.out; have hnb7 := NB247_249.out; have hnc7 := NB249_247.out; have hcz8_0 : w5.cell? ⟨gb247, 0, none⟩ = some (.int .i64 a0_0) := (blk_cell BK247.out 0).trans rfl; have hcz8_1 : w5.cell? ⟨gb247, 1, none⟩ = some (.int .i64 a0_1) := (blk_cell BK247.out 1).trans rfl; have hfz8_0 := blk_frozen BK247.out 0; have hfz8_1 := blk_frozen BK247.out 1; have hnb9 := NB248_249.out; have hnc9 := NB249_248.out; have hcz10_0 : w5.cell? ⟨gb248, 0, none⟩ = some (.int .i64 a1_0) := (blk_cell BK248.out 0).trans rfl; have hcz10_1 : w5.cell? ⟨gb248, 1, none⟩ = some (.int .i64 a1_1) := (blk_cell BK248.out 1).trans rfl; have hfz10_0 := blk_frozen BK248.out 0; have hfz10_1 := blk_frozen BK248.out 1; have hcz11_0 : w5.cell? ⟨gb249, 0, none⟩ = some (.int .i64 0) := (blk_cell BK249.out 0).trans rfl; have hcz11_1 : w5.cell? ⟨gb249, 1, none⟩ = some (.int .i64 0) := (blk_cell BK249.out 1).trans rfl; have hfz11_0 := blk_frozen BK249.out 0; have hfz11_1 := blk_frozen BK249.out 1))
  refine bodyPost_ret (results_cell_row rfl _ _ gb249 34 #[.int .i64 (wrap64 (a0_0 - a1_0)), .int .i64 (wrap64 (a0_1 - a1_1))] (0, 0) _ rfl (by (with_reducible repeat (first | refine blk_drewN ?_ _ | refine blk_drew ?_ | refine blk_alloc ?_ _)); refine blk_put (cs := #[.int .i64 (wrap64 (a0_0 - a1_0)), .int .i64 0]) ?_ 1 _ rfl; (with_reducible repeat (first | refine blk_drewN ?_ _ | refine blk_drew ?_ | refine blk_alloc ?_ _)); refine blk_put (cs := #[.int .i64 0, .int .i64 0]) ?_ 0 _ rfl; (with_reducible repeat (first | refine blk_drewN ?_ _ | refine blk_drew ?_ | refine blk_alloc ?_ _)); exact BK249.out) Try.underlying34 rfl (by kernel_rfl)) rfl ?_
  exact ⟨by first | rfl | (simp [errW_none, errW_some] <;> rfl) | (simp [*, errW_none, errW_some] <;> rfl), hbg_⟩

/-! ### impl_Peg_square: function 62 -/
def impl_Peg_square.f (a0_0 : Int) (a0_1 : Int) : Option (Int) := some (wrap64 ((wrap64 (a0_0 * a0_0)) + (wrap64 (a0_1 * a0_1))))
set_option maxHeartbeats 8000000 in
set_option maxRecDepth 100000 in
theorem impl_Peg_square.calls (a0_0 : Int) (a0_1 : Int) (r : Int) (w : World) (h : impl_Peg_square.f a0_0 a0_1 = some r) :
    Calls Try.prog 62 #[.agg #[.int .i64 a0_0, .int .i64 a0_1]] w fun e w' => e = .returned (.int .i64 r) ∧ Below w.heap.size w w' := by
  have hu34 := Try.underlying34
  have HB := Aside0.mk (Below.refl w.heap.size w)
  have H : (some (wrap64 ((wrap64 (a0_0 * a0_0)) + (wrap64 (a0_1 * a0_1))))) = some r := h
  clear h
  obtain rfl := Option.some.inj H
  go_enter Try.func62, Try.ntmps62
  go_wp2_with (first | ((with_reducible refine gate_dst (N := 1) rfl ?_); refine box_event ?hg (N := 1) ?hd (cs := #[.int .i64 a0_0, .int .i64 a0_1]) (t := 34) ?hr ?_; (case hd => rfl); (case hg => rfl); (case hr => first | (go_simp; done) | (go_simp; rfl)); intro gb250 hg w2 hbox hb; have n0_ := Aside0.mk (below_step (hb_) hb); have n1_ := Aside0.mk (hbox); have n2_ := Aside0.mk ((by rw [hg]; exact (below_size (hb_)) : w.heap.size ≤ gb250)); have n3_ := Aside0.mk ((by rw [hg]; exact (below_size (hb_)) : w.heap.size ≤ gb250)); clear HB; have HB := n0_; have BK250 := n1_; have GW250 := n2_; have GE250 := n3_; clear n0_ n1_ n2_ n3_; clear hb hbox hg; have hcz3_0 : w2.cell? ⟨gb250, 0, none⟩ = some (.int .i64 a0_0) := (blk_cell BK250.out 0).trans rfl; have hcz3_1 : w2.cell? ⟨gb250, 1, none⟩ = some (.int .i64 a0_1) := (blk_cell BK250.out 1).trans rfl; have hfz3_0 := blk_frozen BK250.out 0; have hfz3_1 := blk_frozen BK250.out 1))
  go_ret
  exact ⟨by first | rfl | (simp [errW_none, errW_some] <;> rfl) | (simp [*, errW_none, errW_some] <;> rfl), hbg_⟩

end Go.Proofs.Ytaclbccjcjdbpaa.MF
