-- Written by a program of this session (wip/print/myprint.py) over the kit's printer; Lean checks it.
import Derived.Test.YtaclbccjcjdbpaaMYx0
import Derived.Test.YtaclbccjcjdbpaaMYx12
namespace Go.Proofs.Ytaclbccjcjdbpaa.MY
open Go.RowKit Go.Proofs.YtaclbccjcjdbpaaW.PrintWords Go.Proofs.YtaclbccjcjdbpaaW.PrintLast Go.Proofs.YtaclbccjcjdbpaaW.PrintMore Go.Proofs.YtaclbccjcjdbpaaV
attribute [local go_sem] max2_int min2_int max_two min_two max_three min_three max_four min_four   -- for this text's walks alone
set_option linter.unusedVariables false
set_option linter.unusedSimpArgs false

/-! ### slices_Reverse_impl_Peg_impl_Peg: function 94 (a contract by hand) -/
def slices_Reverse_impl_Peg_impl_Peg.f (l0 : List S34) : Option (List S34) := if l0.length < 4611686018427387904 then some l0.reverse else none
section
open Go.Sort Go.Shelf
set_option maxHeartbeats 4000000 in
set_option maxRecDepth 1000000 in
theorem slices_Reverse_impl_Peg_impl_Peg.walk (k : Nat) (zE : ∀ w, (Go.sizeOf 34).run Try.prog w = .ok k w) (enc : S34 → List Value) (blk off cap : Nat) (d : Array S34) (w : World) (R : RowK enc k w blk off d) (hsz : d.size < 4611686018427387904) :
    Calls Try.prog 94 #[.slice (some ⟨blk, off, none⟩) d.size cap] w fun e w' => e = .returned (.tuple #[]) ∧ SWK enc k w blk off d.reverse w' := by
  have aE := Try.isAgg34
  have S0 : Aside (SWK enc k w blk off d w) := SWK.start R.hH
  go_enter Try.func94, Try.ntmps94
  go_wp2
  go_loopg [2, 3] d.size (fun kx s2 s3 wr => ∃ (i jn : Nat) (jz : Int) (dk : Array S34), s2 = .int .i64 i ∧ s3 = .int .i64 jz ∧ ((i : Int) < jz → jz = jn ∧ jn < d.size) ∧ (¬ (i : Int) < jz → ¬ i < jn) ∧ jn - i ≤ kx ∧ dk.size = d.size ∧ Aside (SWK enc k w blk off dk wr) ∧ reverseLoop i jn dk = reverseLoop 0 (d.size - 1) d)
  case atStart => exact ⟨0, d.size - 1, (d.size : Int) - 1, d, rfl, rfl, fun h => ⟨by omega, by omega⟩, fun h => by omega, by omega, rfl, S0, rfl⟩
  case round =>
    clear S0
    obtain ⟨i, jn, jz, dk, rfl, rfl, h1, h2, hkx, hds, S1, heq⟩ := hrel
    by_cases hlt : (i : Int) < jz
    · obtain ⟨rfl, hjn⟩ := h1 hlt
      have hij : i < jn := by omega
      clear h1 h2
      go_wp2_with fail
      have ea44 : ((i : Int)).toNat = i := by omega
      have pa44 : (0 : Int) ≤ (i : Int) := by omega
      have ba44 : (i : Int) < (d.size : Int) := by omega
      have ra44 : IntKind.i64.wrap ((i : Int)) = (i : Int) := by rw [IntKind.wrap_i64]; omega
      have ec44 : ((jn : Int)).toNat = jn := by omega
      have pc44 : (0 : Int) ≤ (jn : Int) := by omega
      have bc44 : (jn : Int) < (d.size : Int) := by omega
      have rc44 : IntKind.i64.wrap ((jn : Int)) = (jn : Int) := by rw [IntKind.wrap_i64]; omega
      have S2 : Aside (SWK enc k w blk off (swp dk (i) (jn)) ((wr.drew.setCells blk (off + (i) * k) (enc dk[jn]!)).setCells blk (off + (jn) * k) (enc dk[i]!))) := S1.out.swapped R (i) (jn) (by omega) (by omega)
      have l44a := S1.out.ld1 R (by omega) Try.prog (i) (by omega)
      have l44b := S1.out.ld1 R (by omega) Try.prog (jn) (by omega)
      have s44a := S1.out.st1 R (by omega) Try.prog (i) (by omega) dk[jn]!
      have s44b := S1.out.st2 R (by omega) Try.prog (i) (jn) (by omega) (by omega) dk[jn]! dk[i]!
      have n44a : (enc dk[i]!).length = k := R.hk _
      have n44b : (enc dk[jn]!).length = k := R.hk _
      generalize enc dk[i]! = cI44 at S2 l44a s44b n44a
      generalize enc dk[jn]! = cJ44 at S2 l44b s44a s44b n44b
      clear S1
      go_wp2_with fail
      go_big_region
      clear l44a l44b s44a s44b
      generalize (wr.drew.setCells blk (off + (i) * k) cJ44).setCells blk (off + (jn) * k) cI44 = w2 at S2 ⊢
      go_wp2
      go_roundg (jn - 1 - (i + 1))
      case measure => omega
      case rel =>
        rw [reverseLoop, if_pos hij] at heq
        exact ⟨i + 1, jn - 1, (jn : Int) - 1, swp dk i jn, by simp, rfl, fun h => ⟨by omega, by omega⟩, fun h => by omega, Nat.le_refl _, by rw [size_swp]; exact hds, S2, heq⟩
    · have hnot := h2 hlt
      go_wp2
      go_end0
      refine ⟨rfl, ?_⟩
      rw [reverseLoop, if_neg hnot] at heq
      rw [← Lib.reverseLoop_reverse, ← heq]
      exact S1.out
theorem slices_Reverse_impl_Peg_impl_Peg.none (A0 : Option Addr) (c0 : Nat) (w : World) : Calls Try.prog 94 #[.slice A0 0 c0] w fun e w' => e = .returned (.tuple #[]) ∧ w' = w := by
  go_enter Try.func94, Try.ntmps94
  go_wp2
  refine wp_loop_rounds 1 ?_
  rw [rounds_succ]
  go_wp2
  go_end0
  exact ⟨rfl, rfl⟩
theorem slices_Reverse_impl_Peg_impl_Peg.calls (P0_ : Nat → Prop) (u9000_ : Value) (l0 : List S34) (r : List S34) (w0 w : World) (hB : Below w0.heap.size w0 w) (ho0 : Kd.R k34 34 w w0.heap.size P0_ u9000_ l0) (h : slices_Reverse_impl_Peg_impl_Peg.f l0 = some r) :
    Calls Try.prog 94 #[u9000_] w fun e w' => e = .returned (.tuple #[]) ∧ Kd.R k34 34 w' w0.heap.size (fun k_ => (P0_ k_ ∨ w.heap.size ≤ k_)) u9000_ r ∧ Below w0.heap.size w0 w' ∧ Kept w w' (fun k_ => P0_ k_) := by
  have hbig : l0.length < 4611686018427387904 := by
    rcases Nat.lt_or_ge l0.length 4611686018427387904 with h0 | h0
    · exact h0
    · unfold slices_Reverse_impl_Peg_impl_Peg.f at h
      rw [if_neg (by omega)] at h
      cases h
  obtain rfl : l0.reverse = r := by
    unfold slices_Reverse_impl_Peg_impl_Peg.f at h
    rw [if_pos hbig] at h
    exact Option.some.inj h
  rcases Nat.eq_zero_or_pos l0.length with hz | hne
  · obtain rfl : l0 = [] := List.length_eq_zero_iff.1 hz
    obtain ⟨A_, c_, rfl⟩ := Kd.R_slice ho0
    refine (slices_Reverse_impl_Peg_impl_Peg.none A_ c_ w).mono fun e w' hq => ?_
    obtain ⟨rfl, rfl⟩ := hq
    exact ⟨rfl, Kd.R_mono ho0 (fun _ hk => .inl hk), hB, ⟨Nat.le_refl _, fun _ _ _ => rfl⟩⟩
  obtain ⟨g, cap, cur, rfl, hP, hg, hlt, hh, hl, hm, hs, hH⟩ := own_holdsK k34 34 encP34 rfl encP34_len kd_M34 ho0 hne
  have hcon := slices_Reverse_impl_Peg_impl_Peg.walk 2 Try.sizeOf34 encP34 g 0 cap l0.toArray w ⟨encP34_len, encP34_one, hH, hlt⟩ (by simpa using hbig)
  rw [List.size_toArray] at hcon
  refine hcon.mono fun e w' hq => ?_
  obtain ⟨rfl, m, os, rfl⟩ := hq
  obtain ⟨hR, hsz, hblk⟩ := sort_own k34 34 encP34 rfl encP34_len (fun w base ok x => k34_mkM w base ok x) (n := m) (os := os) (d' := l0.toArray.reverse) hP hg hlt hh hl hm hs (by simp)
  have hlist : (l0.toArray.reverse).toList = l0.reverse := by simp
  rw [hlist] at hR
  refine ⟨rfl, Kd.R_mono hR (fun _ hk => .inl hk), ⟨hB.os, hB.tape, hB.output, Nat.le_trans hB.size hsz, fun k hk => ?_⟩, ⟨hsz, fun k hk hn => hblk k hk (fun e_ => hn (e_ ▸ hP))⟩⟩
  rw [hblk k (Nat.lt_of_lt_of_le hk hB.size) (by omega)]
  exact hB.block k hk
end

end Go.Proofs.Ytaclbccjcjdbpaa.MY
