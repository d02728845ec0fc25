-- Written by a program of this session (wip/print/myprint.py) over the kit's printer; Lean checks it.
import Derived.Test.YtnnmpdhijdkpcaaMWx0
import Derived.Test.YtnnmpdhijdkpcaaMWx15
namespace Go.Proofs.Ytnnmpdhijdkpcaa.MW
open Go.RowKit Go.Proofs.YtnnmpdhijdkpcaaW.PrintWords Go.Proofs.YtnnmpdhijdkpcaaW.PrintLast Go.Proofs.YtnnmpdhijdkpcaaW.PrintMore Go.Proofs.YtnnmpdhijdkpcaaV
attribute [local go_sem] max2_int min2_int max_two min_two max_three min_three max_four min_four   -- for this text's walks alone
set_option linter.unusedVariables false
set_option linter.unusedSimpArgs false

/-! ### slices_Reverse_impl_Peg_impl_Peg: function 42 (a contract by hand) -/
def slices_Reverse_impl_Peg_impl_Peg.f (l0 : List S37) : Option (List S37) := if l0.length < 4611686018427387904 then some l0.reverse else none
section
open Go.Sort Go.Shelf
set_option maxHeartbeats 4000000 in
set_option maxRecDepth 1000000 in
theorem slices_Reverse_impl_Peg_impl_Peg.walk (k : Nat) (zE : ∀ w, (Go.sizeOf 37).run Try.prog w = .ok k w) (enc : S37 → List Value) (blk off cap : Nat) (d : Array S37) (w : World) (R : RowK enc k w blk off d) (hsz : d.size < 4611686018427387904) :
  Calls Try.prog 42 #[.slice (some ⟨blk, off, none⟩) d.size cap] w fun e w' => e = .returned (.tuple #[]) ∧ SWK enc k w blk off d.reverse w' := by
 have aE := Try.isAgg37
 have S0 : Aside (SWK enc k w blk off d w) := SWK.start R.hH
 go_enter Try.func42, Try.ntmps42
 go_wp2
 go_loopg [2, 3] d.size (fun kx s2 s3 wr => ∃ (i jn : Nat) (jz : Int) (dk : Array S37), s2 = .int .i64 i ∧ s3 = .int .i64 jz ∧ ((i : Int) < jz → jz = jn ∧ jn < d.size) ∧ (¬ (i : Int) < jz → ¬ i < jn) ∧ jn - i ≤ kx ∧ dk.size = d.size ∧ Aside (SWK enc k w blk off dk wr) ∧ reverseLoop i jn dk = reverseLoop 0 (d.size - 1) d)
 case atStart => exact ⟨0, d.size - 1, (d.size : Int) - 1, d, rfl, rfl, fun h => ⟨by omega, by omega⟩, fun h => by omega, by omega, rfl, S0, rfl⟩
 case round =>
  clear S0
  obtain ⟨i, jn, jz, dk, rfl, rfl, h1, h2, hkx, hds, S1, heq⟩ := hrel
  by_cases hlt : (i : Int) < jz
  ·obtain ⟨rfl, hjn⟩ := h1 hlt
   have hij : i < jn := by omega
   clear h1 h2
   go_wp2_with fail
   have ea44 : ((i : Int)).toNat = i := by omega
   have pa44 : (0 : Int) ≤ (i : Int) := by omega
   have ba44 : (i : Int) < (d.size : Int) := by omega
   have ra44 : IntKind.i64.wrap ((i : Int)) = (i : Int) := by rw [IntKind.wrap_i64]; omega
   have ec44 : ((jn : Int)).toNat = jn := by omega
   have pc44 : (0 : Int) ≤ (jn : Int) := by omega
   have bc44 : (jn : Int) < (d.size : Int) := by omega
   have rc44 : IntKind.i64.wrap ((jn : Int)) = (jn : Int) := by rw [IntKind.wrap_i64]; omega
   have S2 : Aside (SWK enc k w blk off (swp dk (i) (jn)) ((wr.drew.setCells blk (off + (i) * k) (enc dk[jn]!)).setCells blk (off + (jn) * k) (enc dk[i]!))) := S1.out.swapped R (i) (jn) (by omega) (by omega)
   have l44a := S1.out.ld1 R (by omega) Try.prog (i) (by omega)
   have l44b := S1.out.ld1 R (by omega) Try.prog (jn) (by omega)
   have s44a := S1.out.st1 R (by omega) Try.prog (i) (by omega) dk[jn]!
   have s44b := S1.out.st2 R (by omega) Try.prog (i) (jn) (by omega) (by omega) dk[jn]! dk[i]!
   have n44a : (enc dk[i]!).length = k := R.hk _
   have n44b : (enc dk[jn]!).length = k := R.hk _
   generalize enc dk[i]! = cI44 at S2 l44a s44b n44a
   generalize enc dk[jn]! = cJ44 at S2 l44b s44a s44b n44b
   clear S1
   go_wp2_with fail
   go_big_region
   clear l44a l44b s44a s44b
   generalize (wr.drew.setCells blk (off + (i) * k) cJ44).setCells blk (off + (jn) * k) cI44 = w2 at S2 ⊢
   go_wp2
   go_roundg (jn - 1 - (i + 1))
   case measure => omega
   case rel =>
    rw [reverseLoop, if_pos hij] at heq
    exact ⟨i + 1, jn - 1, (jn : Int) - 1, swp dk i jn, by simp, rfl, fun h => ⟨by omega, by omega⟩, fun h => by omega, Nat.le_refl _, by rw [size_swp]; exact hds, S2, heq⟩
  ·have hnot := h2 hlt
   go_wp2
   go_end0
   refine ⟨rfl, ?_⟩
   rw [reverseLoop, if_neg hnot] at heq
   rw [← Lib.reverseLoop_reverse, ← heq]
   exact S1.out
theorem slices_Reverse_impl_Peg_impl_Peg.none (A0 : Option Addr) (c0 : Nat) (w : World) : Calls Try.prog 42 #[.slice A0 0 c0] w fun e w' => e = .returned (.tuple #[]) ∧ w' = w := by
 go_enter Try.func42, Try.ntmps42
 go_wp2
 refine wp_loop_rounds 1 ?_
 rw [rounds_succ]
 go_wp2
 go_end0
 exact ⟨rfl, rfl⟩
theorem slices_Reverse_impl_Peg_impl_Peg.calls (P0_ : Nat → Prop) (u9000_ : Value) (l0 : List S37) (r : List S37) (w0 w : World) (hB : Below w0.heap.size w0 w) (ho0 : Kd.R k37 37 w w0.heap.size P0_ u9000_ l0) (h : slices_Reverse_impl_Peg_impl_Peg.f l0 = some r) :
  Calls Try.prog 42 #[u9000_] w fun e w' => e = .returned (.tuple #[]) ∧ Kd.R k37 37 w' w0.heap.size (fun k_ => (P0_ k_ ∨ w.heap.size ≤ k_)) u9000_ r ∧ Below w0.heap.size w0 w' ∧ Kept w w' (fun k_ => P0_ k_) := by
 have hbig : l0.length < 4611686018427387904 := by
  rcases Nat.lt_or_ge l0.length 4611686018427387904 with h0 | h0
  ·exact h0
  ·unfold slices_Reverse_impl_Peg_impl_Peg.f at h
   rw [if_neg (by omega)] at h
   cases h
 obtain rfl : l0.reverse = r := by
  unfold slices_Reverse_impl_Peg_impl_Peg.f at h
  rw [if_pos hbig] at h
  exact Option.some.inj h
 rcases Nat.eq_zero_or_pos l0.length with hz | hne
 ·obtain rfl : l0 = [] := List.length_eq_zero_iff.1 hz
  obtain ⟨A_, c_, rfl⟩ := Kd.R_slice ho0
  refine (slices_Reverse_impl_Peg_impl_Peg.none A_ c_ w).mono fun e w' hq => ?_
  obtain ⟨rfl, rfl⟩ := hq
  exact ⟨rfl, Kd.R_mono ho0 (fun _ hk => .inl hk), hB, ⟨Nat.le_refl _, fun _ _ _ => rfl⟩⟩
 obtain ⟨g, cap, cur, rfl, hP, hg, hlt, hh, hl, hm, hs, hH⟩ := own_holdsK k37 37 encP37 rfl encP37_len kd_M37 ho0 hne
 have hcon := slices_Reverse_impl_Peg_impl_Peg.walk 2 Try.sizeOf37 encP37 g 0 cap l0.toArray w ⟨encP37_len, encP37_one, hH, hlt⟩ (by simpa using hbig)
 rw [List.size_toArray] at hcon
 refine hcon.mono fun e w' hq => ?_
 obtain ⟨rfl, m, os, rfl⟩ := hq
 obtain ⟨hR, hsz, hblk⟩ := sort_own k37 37 encP37 rfl encP37_len (fun w base ok x => k37_mkM w base ok x) (n := m) (os := os) (d' := l0.toArray.reverse) hP hg hlt hh hl hm hs (by simp)
 have hlist : (l0.toArray.reverse).toList = l0.reverse := by simp
 rw [hlist] at hR
 refine ⟨rfl, Kd.R_mono hR (fun _ hk => .inl hk), ⟨hB.os, hB.tape, hB.output, Nat.le_trans hB.size hsz, fun k hk => ?_⟩, ⟨hsz, fun k hk hn => hblk k hk (fun e_ => hn (e_ ▸ hP))⟩⟩
 rw [hblk k (Nat.lt_of_lt_of_le hk hB.size) (by omega)]
 exact hB.block k hk
end

/-! ### slices_Grow_impl_Peg_impl_Peg: function 54 -/
def slices_Grow_impl_Peg_impl_Peg.f  (a1 : Int) : Option ((List (S37))) := if a1 < 0 then (none) else (if (wrap64 (a1)) > 0 then (if 0 ≤ (wrap64 (a1)) then (if ([] : List (S37)).length + (wrap64 (a1) : Int).toNat < 8796093022208 then ((some (([] : List (S37)) ++ List.replicate (wrap64 (a1) : Int).toNat z37 : List (S37))).bind fun y257 => (if 0 ≤ (y257.length : Int) then (some (y257.take (0 : Int).toNat)) else (none))) else (none)) else (none)) else (some ([] : List (S37))))
set_option maxHeartbeats 8000000 in
set_option maxRecDepth 100000 in
theorem slices_Grow_impl_Peg_impl_Peg.calls  (a1 : Int) (r : List (S37)) (w : World) (h : slices_Grow_impl_Peg_impl_Peg.f a1 = some r) :
  Calls Try.prog 54 #[.slice none 0 0, .int .i64 a1] w fun e w' => ∃ v0_ : Value, e = .returned (v0_) ∧ Kd.R k37 37 w' w.heap.size (fun _ => True) v0_ r ∧ Below w.heap.size w w' := by
 have HB := Aside0.mk (Below.refl w.heap.size w)
 have H : (if a1 < 0 then (none) else (if (wrap64 (a1)) > 0 then (if 0 ≤ (wrap64 (a1)) then (if ([] : List (S37)).length + (wrap64 (a1) : Int).toNat < 8796093022208 then ((some (([] : List (S37)) ++ List.replicate (wrap64 (a1) : Int).toNat z37 : List (S37))).bind fun y257 => (if 0 ≤ (y257.length : Int) then (some (y257.take (0 : Int).toNat)) else (none))) else (none)) else (none)) else (some ([] : List (S37))))) = some r := h
 clear h
 by_cases c3 : a1 < 0
 ·rw [if_pos c3] at H
  exact absurd H (by simp)
 ·rw [if_neg c3] at H
  have c3b0 : decide (a1 < 0) = false := decide_eq_false c3
  clear c3
  by_cases c4 : (wrap64 (a1)) > 0
  ·rw [if_pos c4] at H
   have c4b0 : decide (0 < (wrap64 (a1))) = true := decide_eq_true c4
   clear c4
   obtain ⟨ji5, hji5⟩ : ∃ j_ : Int, (wrap64 (a1)) = j_ := ⟨_, rfl⟩
   replace H : (if 0 ≤ (ji5) then (if ([] : List (S37)).length + (ji5 : Int).toNat < 8796093022208 then ((some (([] : List (S37)) ++ List.replicate (ji5 : Int).toNat z37 : List (S37))).bind fun y257 => (if 0 ≤ (y257.length : Int) then (some (y257.take (0 : Int).toNat)) else (none))) else (none)) else (none)) = some r := by first | (rw [hji5] at H; exact H) | (simp only [hji5] at H ⊢; exact H)
   (try rw [hji5] at c4b0)
   have hji5w : (IntKind.i64.wrap (a1)) = ji5 := (i64_w _).trans hji5
   by_cases c6 : 0 ≤ (ji5)
   ·rw [if_pos c6] at H
    have c6b0 := eq_true c6
    have c6b1 : decide (0 ≤ (ji5)) = true := decide_eq_true c6
    clear c6
    by_cases c7 : ([] : List (S37)).length + (ji5 : Int).toNat < 8796093022208
    ·rw [if_pos c7] at H
     have LMc7 := Aside0.mk c7
     clear c7
     obtain ⟨y257, hy257⟩ : ∃ y_ : List (S37), y_ = (([] : List (S37)) ++ List.replicate (ji5 : Int).toNat z37) := ⟨_, rfl⟩
     replace H : (if 0 ≤ (y257.length : Int) then (some (y257.take (0 : Int).toNat)) else (none)) = some r := by first | (rw [hy257]; with_reducible exact H) | (have H2_ := (Option.bind_some _ _).symm.trans H; rw [hy257]; with_reducible exact H2_) | (have H2_ := (Option.bind_some _ _).symm.trans H; with_reducible exact H2_) | with_reducible exact H | (rw [hy257]; exact H) | exact H
     have Ny257 := Aside0.mk hy257
     clear hy257
     by_cases c8 : 0 ≤ (y257.length : Int)
     ·rw [if_pos c8] at H
      have c8b0 := eq_true c8
      have c8b1 : decide (0 ≤ (y257.length : Int)) = true := decide_eq_true c8
      clear c8
      obtain ⟨y260, hy260⟩ : ∃ y_ : List (S37), y_ = (y257.take (0 : Int).toNat) := ⟨_, rfl⟩
      replace H : (some y260) = some r := by first | (rw [hy260]; with_reducible exact H) | (have H2_ := (Option.bind_some _ _).symm.trans H; rw [hy260]; with_reducible exact H2_) | (have H2_ := (Option.bind_some _ _).symm.trans H; with_reducible exact H2_) | with_reducible exact H | (rw [hy260]; exact H) | exact H
      have Ny260 := Aside0.mk hy260
      clear hy260
      obtain rfl := Option.some.inj H
      go_enter Try.func54, Try.ntmps54
      go_wp2_with (first | (at_builtin; refine Kd.R_append_zeros k37 (w0 := w) w.heap.size rfl (.tmp 20) (.tmp 21) 26 3 37 (.agg #[(.int .i64 0), (.int .i64 0)]) 16 rfl Try.underlying26 Try.underlying3 info37 rfl (by decide) (by omega) (.slice none 0 0) ([] : List (S37)) z37 (ji5 : Int) (fun _ => True) rfl rfl (k37_mkM _ _ _ z37 ) ?aF ?aO (odt_) ?aB ?aS ?aL ?_; (case aB => exact (hb_)); (case aF => exact (fun _ _ => trivial)); (case aO => exact ((Kd.R_nil _ _ _ _ (fun _ => True)))); (case aS => exact (below_size (hb_))); (case aL => have := LMc7.out; omega); intro v258 w9 ho hb hg hat; rw [← Ny257.out] at ho; have n0_ := Aside0.mk (hb); have n1_ := Aside0.mk (ho); clear HB; have HB := n0_; have HO259 := n1_; clear n0_ n1_; clear ho hb hg hat; obtain ⟨Ao10, co10, eo10⟩ := Kd.R_slice HO259.out; subst eo10; have q11 : (0 : Int) ≤ ((y257.length : Int) : Int) := odt_; obtain ⟨i011, hi011, _, hsz11, _⟩ := info_parts info37; have hcut11 := cut_to (P := Try.prog) 26 37 .i64 Try.underlying26 hi011 Ao10 y257.length co10 0 (by omega) q11 (Kd.R_reads' HO259.out).2.1; have hr11 := Kd.R_take (m := (0 : Int).toNat) HO259.out (by omega); have hy11 : y260.length = (0 : Int).toNat := (by rw [Ny260.out, List.length_take]; omega); rw [← Ny260.out] at hr11; rw [← hy11] at hr11 hcut11; clear hy11 hi011 hsz11 HO259; have HO262 := Aside0.mk hr11; clear hr11; replace q11 := eq_true q11))
      go_ret
      exact ⟨_, by first | rfl | (simp [errW_none, errW_some] <;> rfl) | (simp only [← hji5]; first | rfl | (simp [errW_none, errW_some] <;> rfl)) | (simp [*, errW_none, errW_some] <;> rfl), by (with_reducible repeat (first | apply Kd.R_alloc | apply Kd.R_drewN | apply Kd.R_drew)); exact HO262.out, hb_⟩
     ·rw [if_neg c8] at H
      exact absurd H (by simp)
    ·rw [if_neg c7] at H
     exact absurd H (by simp)
   ·rw [if_neg c6] at H
    exact absurd H (by simp)
  ·rw [if_neg c4] at H
   have c4b0 : decide (0 < (wrap64 (a1))) = false := decide_eq_false c4
   clear c4
   obtain rfl := Option.some.inj H
   go_enter Try.func54, Try.ntmps54
   go_wp2
   go_ret
   exact ⟨_, by first | rfl | (simp [errW_none, errW_some] <;> rfl) | (simp [*, errW_none, errW_some] <;> rfl), by first | exact Kd.R_nil _ _ _ _ _ | exact Kd.N_nil _ _ _ _ _ | exact Kd.V_nil _ _ _ _ _ | exact Kd.Q_nil _ _ _ _ _ | exact Kd.S_nil _ _ _ _ _, hb_⟩

/-! ### slices_Concat_impl_Peg_impl_Peg: function 43 -/
mutual
def slices_Concat_impl_Peg_impl_Peg.l0 : Nat → List (List (S37)) → Int → List (List (S37)) → Int → Int → Option ((List (S37)))
 | 0, _, _, _, _, _ => none
 | k + 1, x0, x3, x9, x10, x11 => if x11 < x10 then (if 0 ≤ x11 then (if x11 < (x9.length : Int) then (if (wrap64 (x3 + ((rd_L3 x9 x11).length : Int))) < 0 then (none) else (slices_Concat_impl_Peg_impl_Peg.l0 k x0 (wrap64 (x3 + ((rd_L3 x9 x11).length : Int))) x9 x10 (wrap64 (x11 + 1)))) else (none)) else (none)) else ((slices_Grow_impl_Peg_impl_Peg.f x3).bind fun t264 => (slices_Concat_impl_Peg_impl_Peg.l1 k t264 x0 (x0.length : Int) 0))
def slices_Concat_impl_Peg_impl_Peg.l1 : Nat → List (S37) → List (List (S37)) → Int → Int → Option ((List (S37)))
 | 0, _, _, _, _ => none
 | k + 1, x6, x25, x26, x27 => if x27 < x26 then (if 0 ≤ x27 then (if x27 < (x25.length : Int) then (if x6.length + (rd_L3 x25 x27).length < 8796093022208 then (slices_Concat_impl_Peg_impl_Peg.l1 k (x6 ++ (rd_L3 x25 x27)) x25 x26 (wrap64 (x27 + 1))) else (none)) else (none)) else (none)) else (some x6)
end
def slices_Concat_impl_Peg_impl_Peg.f (k : Nat) (l0 : List (List (S37))) : Option ((List (S37))) := slices_Concat_impl_Peg_impl_Peg.l0 k l0 0 l0 (l0.length : Int) 0
theorem slices_Concat_impl_Peg_impl_Peg.mono_l : ∀ k, (∀ y0 y1 y2 y3 y4, LeO (slices_Concat_impl_Peg_impl_Peg.l0 k y0 y1 y2 y3 y4) (slices_Concat_impl_Peg_impl_Peg.l0 (k + 1) y0 y1 y2 y3 y4)) ∧ (∀ y0 y1 y2 y3, LeO (slices_Concat_impl_Peg_impl_Peg.l1 k y0 y1 y2 y3) (slices_Concat_impl_Peg_impl_Peg.l1 (k + 1) y0 y1 y2 y3))
 | 0 => ⟨fun _ _ _ _ _ r h => by simp [slices_Concat_impl_Peg_impl_Peg.l0] at h, fun _ _ _ _ r h => by simp [slices_Concat_impl_Peg_impl_Peg.l1] at h⟩
 | k + 1 => by
  obtain ⟨ih0, ih1⟩ := slices_Concat_impl_Peg_impl_Peg.mono_l k
  refine ⟨?_, ?_⟩
  ·intro y0 y1 y2 y3 y4
   unfold slices_Concat_impl_Peg_impl_Peg.l0
   repeat' first
   | (with_reducible exact ih0 _ _ _ _ _)
   | (with_reducible exact ih1 _ _ _ _)
   | (with_reducible exact LeO.refl _)
   | (with_reducible exact LeO.none _)
   | (with_reducible refine LeO.ite ?_ ?_)
   | (with_reducible refine LeO.bind ?_ (fun _ => ?_))
   | exact ih0 _ _ _ _ _
   | exact ih1 _ _ _ _
   | exact LeO.none _
   | refine LeO.ite ?_ ?_
   | refine LeO.bind ?_ (fun _ => ?_)
  ·intro y0 y1 y2 y3
   unfold slices_Concat_impl_Peg_impl_Peg.l1
   repeat' first
   | (with_reducible exact ih0 _ _ _ _ _)
   | (with_reducible exact ih1 _ _ _ _)
   | (with_reducible exact LeO.refl _)
   | (with_reducible exact LeO.none _)
   | (with_reducible refine LeO.ite ?_ ?_)
   | (with_reducible refine LeO.bind ?_ (fun _ => ?_))
   | exact ih0 _ _ _ _ _
   | exact ih1 _ _ _ _
   | exact LeO.none _
   | refine LeO.ite ?_ ?_
   | refine LeO.bind ?_ (fun _ => ?_)
theorem slices_Concat_impl_Peg_impl_Peg.mono : ∀ a0 k, LeO (slices_Concat_impl_Peg_impl_Peg.f k a0) (slices_Concat_impl_Peg_impl_Peg.f (k + 1) a0) := by
 intro a0 k
 obtain ⟨ih0, ih1⟩ := slices_Concat_impl_Peg_impl_Peg.mono_l k
 unfold slices_Concat_impl_Peg_impl_Peg.f
 repeat' first
   | (with_reducible exact ih0 _ _ _ _ _)
   | (with_reducible exact ih1 _ _ _ _)
   | (with_reducible exact LeO.refl _)
   | (with_reducible exact LeO.none _)
   | (with_reducible refine LeO.ite ?_ ?_)
   | (with_reducible refine LeO.bind ?_ (fun _ => ?_))
   | exact ih0 _ _ _ _ _
   | exact ih1 _ _ _ _
   | exact LeO.none _
   | refine LeO.ite ?_ ?_
   | refine LeO.bind ?_ (fun _ => ?_)
set_option maxHeartbeats 8000000 in
set_option maxRecDepth 100000 in
theorem slices_Concat_impl_Peg_impl_Peg.calls (k : Nat) (A0 : Option Addr) (c0 : Nat) (l0 : List (List (S37))) (r : List (S37)) (w : World) (hr0 : Kd.C (Kd.slice 37 k37) w A0 l0.length l0) (hc0 : l0.length ≤ c0) (h : slices_Concat_impl_Peg_impl_Peg.f k l0 = some r) :
  Calls Try.prog 43 #[.slice A0 l0.length c0] w fun e w' => ∃ v0_ : Value, e = .returned (v0_) ∧ Kd.R k37 37 w' w.heap.size (fun _ => True) v0_ r ∧ Below w.heap.size w w' := by
 have HR0 := Aside0.mk hr0
 have HC0 := Aside0.mk hc0
 clear hr0 hc0
 have HB := Aside0.mk (Below.refl w.heap.size w)
 have H : (slices_Concat_impl_Peg_impl_Peg.l0 k l0 0 l0 (l0.length : Int) 0) = some r := h
 clear h
 have H' := Aside0.mk H
 clear H
 go_enter Try.func43, Try.ntmps43
 go_wp2
 go_loopg [3, 11] k (fun kq v3 v11 w' => ∃ (x3_1 : Int) (x11_1 : Int), v3 = .int .i64 x3_1 ∧ v11 = .int .i64 x11_1 ∧ Aside0 (slices_Concat_impl_Peg_impl_Peg.l0 kq l0 x3_1 l0 (l0.length : Int) x11_1 = some r) ∧ Aside0 (kq ≤ k) ∧ Aside0 (Below w.heap.size w w'))
 case atStart => exact ⟨(0), (0), (by first | rfl | (simp; done) | (simp [*]; done)), (by first | rfl | (simp; done) | (simp [*]; done)), H', ⟨Nat.le_refl _⟩, ⟨hb_⟩⟩
 case round =>
  clear H'
  obtain ⟨x3_1, x11_1, rfl, rfl, HA, HK1, HB⟩ := hrel
  cases gk with
  | zero => exact absurd HA.out (by simp [slices_Concat_impl_Peg_impl_Peg.l0])
  | succ k1 =>
   have H := HA.out
   clear HA
   simp only [slices_Concat_impl_Peg_impl_Peg.l0] at H
   by_cases c2 : x11_1 < (l0.length : Int)
   ·rw [if_pos c2] at H
    have c2b0 : decide (x11_1 < (l0.length : Int)) = true := decide_eq_true c2
    clear c2
    by_cases c3 : 0 ≤ x11_1
    ·rw [if_pos c3] at H
     have c3b0 : decide (0 ≤ x11_1) = true := decide_eq_true c3
     clear c3
     by_cases c4 : x11_1 < (l0.length : Int)
     ·rw [if_pos c4] at H
      have c4b0 : decide (x11_1 < (l0.length : Int)) = true := decide_eq_true c4
      clear c4
      by_cases c5 : (wrap64 (x3_1 + ((rd_L3 l0 x11_1).length : Int))) < 0
      ·rw [if_pos c5] at H
       exact absurd H (by simp)
      ·rw [if_neg c5] at H
       have c5b0 : decide ((wrap64 (x3_1 + ((rd_L3 l0 x11_1).length : Int))) < 0) = false := decide_eq_false c5
       clear c5
       have H' := Aside0.mk H
       clear H
       have p263 : 0 ≤ (x11_1 : Int) := odt_
       have q263 : x11_1 < (l0.length : Int) := odt_
       obtain ⟨ad263, A263_0, c263_0, e263, hx263_0, hl263_0, hi263_0⟩ := at_L3 HR0.out x11_1 p263 q263
       cases e263
       replace hx263_0 := (HB.out.cell (World.block_lt_of_cell? w _ hx263_0)).trans hx263_0
       have HR263_0 := Aside0.mk hi263_0
       have HC263_0 := Aside0.mk hl263_0
       clear hi263_0 hl263_0
       replace p263 := eq_true p263
       replace q263 := eq_true q263
       go_wp2
       go_roundg k1
       case measure => have := HK1.out; omega
       case rel => exact ⟨(wrap64 (x3_1 + ((rd_L3 l0 x11_1).length : Int))), (wrap64 (x11_1 + 1)), (by first | rfl | (simp; done) | (simp [*]; done)), (by first | rfl | (simp; done) | (simp [*]; done)), H', ⟨by have := HK1.out; omega⟩, ⟨hb_⟩⟩
     ·rw [if_neg c4] at H
      exact absurd H (by simp)
    ·rw [if_neg c3] at H
     exact absurd H (by simp)
   ·rw [if_neg c2] at H
    have c2b0 : decide (x11_1 < (l0.length : Int)) = false := decide_eq_false c2
    clear c2
    replace H := Option.bind_eq_some_iff.mp H
    obtain ⟨t264, A60, H⟩ := H
    replace H : (slices_Concat_impl_Peg_impl_Peg.l1 k1 t264 l0 (l0.length : Int) 0) = some r := H
    have A6 := Aside0.mk A60
    clear A60
    have H' := Aside0.mk H
    clear H
    go_wp2_with (first | ((with_reducible refine gate_callee (f := 54) rfl ?_); refine goesL_ (some 24) rfl rfl Try.func54 (by kernel_rfl) rfl #[.slice none 0 0, .int .i64 x3_1] rfl ga_ ?_; (with_reducible refine (slices_Grow_impl_Peg_impl_Peg.calls  x3_1 t264 _ A6.out).mono ?_); rintro e w7 ⟨v265, rfl, ho0, hb⟩; refine ⟨_, rfl, ?_⟩; have n0_ := Aside0.mk (Kd.R_lower ho0 (below_size (hb_))); have n1_ := Aside0.mk (below_step (hb_) hb); clear HB; have HO266 := n0_; have HB := n1_; clear n0_ n1_; (try clear hb); (try clear hb2); (try clear hk); (try clear hi); (try clear ho0)))
    go_loopg [6, 27] k1 (fun kq v6 v27 w' => ∃ (x6_2 : List (S37)) (x27_2 : Int), v27 = .int .i64 x27_2 ∧ Aside0 (slices_Concat_impl_Peg_impl_Peg.l1 kq x6_2 l0 (l0.length : Int) x27_2 = some r) ∧ Aside0 (kq ≤ k1) ∧ Aside0 (Kd.R k37 37 w' w.heap.size (fun _ => True) v6 x6_2) ∧ Aside0 (Below w.heap.size w w'))
    case atStart => exact ⟨(t264), (0), (by first | rfl | (simp; done) | (simp [*]; done)), H', ⟨Nat.le_refl _⟩, ⟨rk_ HO266.out⟩, ⟨hb_⟩⟩
    case round =>
     clear H'
     try clear c2
     try clear c2b0
     try clear p2
     try clear q2
     try clear hx2
     try clear c3
     try clear c3b0
     try clear c4
     try clear c4b0
     try clear c5
     try clear c5b0
     try clear p6
     try clear hx263_0
     try clear p263
     try clear q263
     obtain ⟨x6_2, x27_2, rfl, HA, HK2, HO_6, HB⟩ := hrel
     cases gk with
     | zero => exact absurd HA.out (by simp [slices_Concat_impl_Peg_impl_Peg.l1])
     | succ k2 =>
      have H := HA.out
      clear HA
      simp only [slices_Concat_impl_Peg_impl_Peg.l1] at H
      by_cases c8 : x27_2 < (l0.length : Int)
      ·rw [if_pos c8] at H
       have c8b0 : decide (x27_2 < (l0.length : Int)) = true := decide_eq_true c8
       clear c8
       by_cases c9 : 0 ≤ x27_2
       ·rw [if_pos c9] at H
        have c9b0 : decide (0 ≤ x27_2) = true := decide_eq_true c9
        clear c9
        by_cases c10 : x27_2 < (l0.length : Int)
        ·rw [if_pos c10] at H
         have c10b0 : decide (x27_2 < (l0.length : Int)) = true := decide_eq_true c10
         clear c10
         by_cases c11 : x6_2.length + (rd_L3 l0 x27_2).length < 8796093022208
         ·rw [if_pos c11] at H
          have LMc11 := Aside0.mk c11
          clear c11
          obtain ⟨y268, hy268⟩ : ∃ y_ : List (S37), y_ = (x6_2 ++ (rd_L3 l0 x27_2)) := ⟨_, rfl⟩
          replace H : (slices_Concat_impl_Peg_impl_Peg.l1 k2 y268 l0 (l0.length : Int) (wrap64 (x27_2 + 1))) = some r := by first | (rw [hy268]; with_reducible exact H) | (have H2_ := (Option.bind_some _ _).symm.trans H; rw [hy268]; with_reducible exact H2_) | (have H2_ := (Option.bind_some _ _).symm.trans H; with_reducible exact H2_) | with_reducible exact H | (rw [hy268]; exact H) | exact H
          have Ny268 := Aside0.mk hy268
          clear hy268
          have H' := Aside0.mk H
          clear H
          have p267 : 0 ≤ (x27_2 : Int) := odt_
          have q267 : x27_2 < (l0.length : Int) := odt_
          obtain ⟨ad267, A267_0, c267_0, e267, hx267_0, hl267_0, hi267_0⟩ := at_L3 HR0.out x27_2 p267 q267
          cases e267
          replace hx267_0 := (HB.out.cell (World.block_lt_of_cell? w _ hx267_0)).trans hx267_0
          have HR267_0 := Aside0.mk hi267_0
          have HC267_0 := Aside0.mk hl267_0
          clear hi267_0 hl267_0
          replace p267 := eq_true p267
          replace q267 := eq_true q267
          go_wp2_with (first | ((with_reducible refine gate_builtin (b := .append) (xs := #[.tmp 31, .tmp 32]) rfl ?_); at_builtin; refine Kd.R_append_rows k37 (w0 := w) w.heap.size rfl (.tmp 31) (.tmp 32) 26 37 (.agg #[(.int .i64 0), (.int .i64 0)]) 16 rfl Try.underlying26 info37 rfl (by decide) (by omega) u6 x6_2 (rd_L3 l0 x27_2) _ _ _ (fun _ => True) (fun _ => False) rfl rfl ?aO ?aR (fun _ _ h => h) (fun _ h => h.elim) ?aF ?aB ?aS ?aL ?_; (case aR => repeat (first | exact (Kd.C_below HR267_0.out HB.out) | (with_reducible refine Kd.C_alloc ?_ _) | (with_reducible refine Kd.C_drewN ?_ _) | (with_reducible refine Kd.C_drew ?_))); (case aB => exact (hb_)); (case aF => exact (fun _ _ => trivial)); (case aO => exact (rk_ HO_6.out)); (case aS => exact (below_size (hb_))); (case aL => have := LMc11.out; omega); intro v269 w12 ho hb hg hat; rw [← Ny268.out] at ho; have n0_ := Aside0.mk (hb); have n1_ := Aside0.mk (ho); clear HB; clear HO_6; have HB := n0_; have HO270 := n1_; clear n0_ n1_; clear ho hb hg hat))
          go_roundg k2
          case measure => have := HK1.out; have := HK2.out; omega
          case rel => exact ⟨(y268), (wrap64 (x27_2 + 1)), (by first | rfl | (simp; done) | (simp [*]; done)), H', ⟨by have := HK1.out; have := HK2.out; omega⟩, ⟨rk_ HO270.out⟩, ⟨hb_⟩⟩
         ·rw [if_neg c11] at H
          exact absurd H (by simp)
        ·rw [if_neg c10] at H
         exact absurd H (by simp)
       ·rw [if_neg c9] at H
        exact absurd H (by simp)
      ·rw [if_neg c8] at H
       have c8b0 : decide (x27_2 < (l0.length : Int)) = false := decide_eq_false c8
       clear c8
       obtain rfl := Option.some.inj H
       go_wp2
       go_ret
       exact ⟨_, by first | rfl | (simp [errW_none, errW_some] <;> rfl) | (simp [*, errW_none, errW_some] <;> rfl), by (with_reducible repeat (first | apply Kd.R_alloc | apply Kd.R_drewN | apply Kd.R_drew)); exact HO_6.out, hb_⟩

end Go.Proofs.Ytnnmpdhijdkpcaa.MW
