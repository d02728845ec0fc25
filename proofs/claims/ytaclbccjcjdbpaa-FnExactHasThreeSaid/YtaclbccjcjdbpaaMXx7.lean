-- Written by a program of this session (wip/print/myprint.py) over the kit's printer; Lean checks it.
import Derived.Test.YtaclbccjcjdbpaaMXx0
import Derived.Test.YtaclbccjcjdbpaaMXx1
namespace Go.Proofs.Ytaclbccjcjdbpaa.MX
open Go.RowKit Go.Proofs.YtaclbccjcjdbpaaW.PrintWords Go.Proofs.YtaclbccjcjdbpaaW.PrintLast Go.Proofs.YtaclbccjcjdbpaaW.PrintMore Go.Proofs.YtaclbccjcjdbpaaV
attribute [local go_sem] max2_int min2_int max_two min_two max_three min_three max_four min_four   -- for this text's walks alone
set_option linter.unusedVariables false
set_option linter.unusedSimpArgs false

attribute [local go_sem high] eqA34
/-! ### slices_Compact_impl_Peg_impl_Peg: function 54 -/
/- A contract by hand. -/
instance : Inhabited S34 := ⟨z34⟩
instance : DecidableEq S34 := fun a b => if h : a.f0 = b.f0 ∧ a.f1 = b.f1 then isTrue (by cases a; cases b; simp only at h; simp [h]) else isFalse (fun e => h (by subst e; exact ⟨rfl, rfl⟩))
/-- An element's cells. -/
def encP34 (x : S34) : List Value := [.int .i64 x.f0, .int .i64 x.f1]
theorem encP34_len (x : S34) : (encP34 x).length = 2 := rfl
theorem encP34_one (x : S34) (v : Value) (hv : v ∈ encP34 x) : v.oneCell' = true := by
  simp [encP34] at hv
  rcases hv with rfl | rfl <;> rfl
theorem kd_M34 (w : World) (base : Nat) (ok : Nat → Prop) (x : S34) (cs : List Value) (h : k34.M w base ok x cs) : cs = encP34 x := k34_openM h
section
open Go.Sort Go.Shelf Go.Lib
def slices_Compact_impl_Peg_impl_Peg.f (l0 : List S34) : Option (List S34) := if l0.length < 4611686018427387904 then some (compactUpTo l0.toArray l0.length) else none
theorem slices_Compact_impl_Peg_impl_Peg.eql (x y : S34) (w : World) : Sem.run Try.prog (binOp .eql 34 (.agg (encP34 x).toArray) (.agg (encP34 y).toArray)) w = .ok (.bool (decide (x = y))) w := by
  have h := eqA34 9998 w x.f0 y.f0 x.f1 y.f1
  have e : (x.f0 == y.f0 && (x.f1 == y.f1)) = decide (x = y) := by
    rw [Bool.eq_iff_iff, Bool.and_eq_true, beq_iff_eq, beq_iff_eq, decide_eq_true_eq]
    exact ⟨fun h => by cases x; cases y; simp only at h; simp [h], fun h => by subst h; exact ⟨rfl, rfl⟩⟩
  rw [e] at h
  show Sem.run Try.prog (binOp .eql 34 (.agg #[.int .i64 x.f0, .int .i64 x.f1]) (.agg #[.int .i64 y.f0, .int .i64 y.f1])) w = _
  simp only [binOp]
  simp [Op.equal, Op.maxDepth, h]
theorem slices_Compact_impl_Peg_impl_Peg.neq (x y : S34) (w : World) : Sem.run Try.prog (binOp .neq 34 (.agg (encP34 x).toArray) (.agg (encP34 y).toArray)) w = .ok (.bool (!decide (x = y))) w := by
  have h := eqA34 9998 w x.f0 y.f0 x.f1 y.f1
  have e : (x.f0 == y.f0 && (x.f1 == y.f1)) = decide (x = y) := by
    rw [Bool.eq_iff_iff, Bool.and_eq_true, beq_iff_eq, beq_iff_eq, decide_eq_true_eq]
    exact ⟨fun h => by cases x; cases y; simp only at h; simp [h], fun h => by subst h; exact ⟨rfl, rfl⟩⟩
  rw [e] at h
  show Sem.run Try.prog (binOp .neq 34 (.agg #[.int .i64 x.f0, .int .i64 x.f1]) (.agg #[.int .i64 y.f0, .int .i64 y.f1])) w = _
  simp only [binOp]
  simp [Op.equal, Op.maxDepth, h]
set_option maxHeartbeats 4000000 in
set_option maxRecDepth 1000000 in
theorem slices_Compact_impl_Peg_impl_Peg.walk (k : Nat) (k0 : 0 < k) (zE : ∀ w, (Go.sizeOf 34).run Try.prog w = .ok k w) (enc : S34 → List Value)
    (heq' : ∀ (x y : S34) (w : World), Sem.run Try.prog (binOp .eql 34 (.agg (enc x).toArray) (.agg (enc y).toArray)) w = .ok (.bool (decide (x = y))) w)
    (hne' : ∀ (x y : S34) (w : World), Sem.run Try.prog (binOp .neq 34 (.agg (enc x).toArray) (.agg (enc y).toArray)) w = .ok (.bool (!decide (x = y))) w)
    (hgd' : ∀ (op : BinOp) (a b : Operand) (x y : S34) (w : World), Sem.run Try.prog (eqGuard op 34 a b (.agg (enc x).toArray) (.agg (enc y).toArray)) w = .ok () w)
    (z : Value) (zr : S34) (hv : ∀ w, (zeroValue 34).run Try.prog w = .ok z w) (hz : z.cells.toList = enc zr)
    (blk off cap : Nat) (d : Array S34) (w : World) (R : RowK enc k w blk off d) (hsz : d.size < 4611686018427387904) (hcap : d.size ≤ cap) :
    Calls Try.prog 54 #[.slice (some ⟨blk, off, none⟩) d.size cap] w fun e w' => e = .returned (.slice (some ⟨blk, off, none⟩) (compactUpTo d d.size).length cap) ∧ ∃ d' : Array S34, SWK enc k w blk off d' w' ∧ d'.size = d.size ∧ d'.toList.take (compactUpTo d d.size).length = compactUpTo d d.size := by
  have aE := Try.isAgg34
  have S0 : Aside (SWK enc k w blk off d w) := SWK.start R.hH
  have same : Aside ((∀ j, j < d.size → keeps d j = true) → compactUpTo d d.size = d.toList) := fun hall => by rw [compactUpTo_all d _ hall, range_map_get]
  by_cases h2 : d.size < 2
  · go_enter Try.func54, Try.ntmps54
    go_wp2
    go_ret
    have e := same.out (fun j hj => keeps_lt_one d j (by omega))
    exact ⟨by rw [e]; simp, d, S0.out, rfl, by rw [e, List.take_length]⟩
  · go_enter Try.func54, Try.ntmps54
    go_wp2
    go_loopg [3] d.size (fun g s3 wr => ∃ kk : Nat, 1 ≤ kk ∧ kk ≤ d.size ∧ d.size - kk ≤ g ∧ s3 = .int .i64 kk ∧ Aside (SWK enc k w blk off d wr) ∧ Aside (∀ j, j < kk → keeps d j = true))
    case atStart => exact ⟨1, Nat.le_refl _, by omega, by omega, rfl, S0, keeps_lt_one d⟩
    case round =>
      clear S0
      obtain ⟨kk, hk1, hkk, hg, rfl, S1, hall⟩ := hrel
      by_cases hlt : kk < d.size
      · have l1 : ∀ m, Sem.run Try.prog (loadCellsFrom ⟨blk, off + kk * k, none⟩ 0 k #[]) (wr.drewN m) = .ok (enc d[kk]!).toArray (wr.drewN m) := fun m => (S1.out.drewN m).load R rfl Try.prog kk hlt
        have l2 : ∀ m, Sem.run Try.prog (loadCellsFrom ⟨blk, off + (kk - 1) * k, none⟩ 0 k #[]) (wr.drewN m) = .ok (enc d[kk - 1]!).toArray (wr.drewN m) := fun m => (S1.out.drewN m).load R rfl Try.prog (kk - 1) (by omega)
        generalize hx : d[kk]! = x at l1
        generalize hy : d[kk - 1]! = y at l2
        have B : Aside (d[kk]! = x ∧ d[kk - 1]! = y) := ⟨hx, hy⟩
        clear hx hy
        have ea : ((kk : Int)).toNat = kk := by omega
        have pa : (0 : Int) ≤ (kk : Int) := by omega
        have ba : (kk : Int) < (d.size : Int) := by omega
        have ra : IntKind.i64.wrap ((kk : Int)) = (kk : Int) := by rw [IntKind.wrap_i64]; omega
        have ec : ((kk : Int) - 1).toNat = kk - 1 := by omega
        have pc : (0 : Int) ≤ (kk : Int) - 1 := by omega
        have bc : (kk : Int) - 1 < (d.size : Int) := by omega
        have rc : IntKind.i64.wrap ((kk : Int) - 1) = (kk : Int) - 1 := by rw [IntKind.wrap_i64]; omega
        by_cases hdup : x = y
        · subst hdup
          go_wp2_with fail
          go_quiet (fail)
          have S2 : Aside (SWK enc k w blk off d (wr.drewN nq)) := S1.out.drewN nq
          generalize wr.drewN nq = w2 at S2 ⊢
          clear l1 l2 S1 ea pa ba ra ec pc bc rc
          go_wp2
          go_loopg [3, 5] d.size (fun g s3 s5 wr => ∃ (ik k2 : Nat) (dk : Array S34), s3 = .int .i64 ik ∧ s5 = .int .i64 k2 ∧ 1 ≤ k2 ∧ kk + k2 ≤ d.size ∧ d.size - (kk + k2) ≤ g ∧ Aside (SWK enc k w blk off dk wr) ∧ Aside (CompInv d (kk + k2) ik dk))
          case atStart => exact ⟨kk, 1, d, rfl, rfl, Nat.le_refl _, by omega, by omega, S2, CompInv.start hall.out (keeps_neg (by omega) (by rw [B.out.1, B.out.2]))⟩
          case round =>
            clear S2
            obtain ⟨ik, k2, dk, rfl, rfl, h1, hle, hg2, S3, I2⟩ := hrel
            have hik := I2.out.lt
            have hds := I2.out.size
            by_cases hlt2 : kk + k2 < d.size
            · have l3 : ∀ m, Sem.run Try.prog (loadCellsFrom ⟨blk, off + kk * k + k2 * k, none⟩ 0 k #[]) (wr.drewN m) = .ok (enc d[kk + k2]!).toArray (wr.drewN m) := fun m => by
                have h := (S3.out.drewN m).load R hds Try.prog (kk + k2) (by omega)
                rwa [I2.out.high (kk + k2) (by omega), Nat.add_mul, ← Nat.add_assoc] at h
              have l4 : ∀ m, Sem.run Try.prog (loadCellsFrom ⟨blk, off + kk * k + (k2 - 1) * k, none⟩ 0 k #[]) (wr.drewN m) = .ok (enc d[kk + k2 - 1]!).toArray (wr.drewN m) := fun m => by
                have h := (S3.out.drewN m).load R hds Try.prog (kk + k2 - 1) (by omega)
                rwa [I2.out.high (kk + k2 - 1) (by omega), show kk + k2 - 1 = kk + (k2 - 1) by omega, Nat.add_mul, ← Nat.add_assoc, show kk + (k2 - 1) = kk + k2 - 1 by omega] at h
              have s5 : ∀ m, Sem.run Try.prog (storeCells ⟨blk, off + ik * k, none⟩ (enc d[kk + k2]!) 0) (wr.drewN m) = .ok () ((wr.drewN m).setCells blk (off + ik * k) (enc d[kk + k2]!)) := fun m => swk_stE (S3.out.drewN m) R hds Try.prog ik (by omega) _
              have n5 : (enc d[kk + k2]!).length = k := R.hk _
              generalize hu : d[kk + k2]! = u at l3 s5 n5
              generalize hw : d[kk + k2 - 1]! = v at l4
              have C : Aside (d[kk + k2]! = u ∧ d[kk + k2 - 1]! = v) := ⟨hu, hw⟩
              clear hu hw
              have ea : ((k2 : Int)).toNat = k2 := by omega
              have pa : (0 : Int) ≤ (k2 : Int) := by omega
              have ba : (k2 : Int) < ((d.size - kk : Nat) : Int) := by omega
              have ra : IntKind.i64.wrap ((k2 : Int)) = (k2 : Int) := by rw [IntKind.wrap_i64]; omega
              have ec : ((k2 : Int) - 1).toNat = k2 - 1 := by omega
              have pc : (0 : Int) ≤ (k2 : Int) - 1 := by omega
              have bc : (k2 : Int) - 1 < ((d.size - kk : Nat) : Int) := by omega
              have rc : IntKind.i64.wrap ((k2 : Int) - 1) = (k2 : Int) - 1 := by rw [IntKind.wrap_i64]; omega
              by_cases huv : u = v
              · subst huv
                go_wp2_with fail
                go_quiet (fail)
                have S4 : Aside (SWK enc k w blk off dk (wr.drewN nq)) := S3.out.drewN nq
                generalize wr.drewN nq = w4 at S4 ⊢
                clear l3 l4 s5 n5 S3 ea pa ba ra ec pc bc rc
                go_wp2
                go_roundg (d.size - (kk + (k2 + 1)))
                case measure => omega
                case rel => exact ⟨ik, k2 + 1, dk, rfl, by go_num, by omega, by omega, Nat.le_refl _, S4, I2.out.skip (keeps_neg (by omega) (by rw [C.out.1, C.out.2]))⟩
              · go_wp2_with fail
                go_quiet (fail)
                have S4 : Aside (SWK enc k w blk off dk (wr.drewN nq)) := S3.out.drewN nq
                have S5 : Aside (SWK enc k w blk off (dk.setIfInBounds ik u) ((wr.drewN nq).setCells blk (off + ik * k) (enc u))) := swk_put S4.out R.hk R.hblk ik (by omega) u
                have l6 := l3 nq
                have s6 := s5 nq
                clear l3 l4 s5
                generalize wr.drewN nq = w4 at S4 S5 l6 s6 ⊢
                have bk : (ik : Int) < (d.size : Int) := by omega
                go_wp2
                go_roundg (d.size - (kk + (k2 + 1)))
                case measure => omega
                case rel => exact ⟨ik + 1, k2 + 1, dk.setIfInBounds ik u, by go_num, by go_num, by omega, by omega, Nat.le_refl _, S5, by have := I2.out.keep hlt2 (keeps_pos (by rw [C.out.1, C.out.2]; exact huv)); rwa [C.out.1] at this⟩
            · have hend : kk + k2 = d.size := by omega
              have hcl : ∀ ty, (Builtin.clear_ #[25] ty #[.slice (some ⟨blk, off + ik * k, none⟩) (d.size - ik) (cap - ik)]).run Try.prog wr = .ok (.tuple #[]) (wr.setCells blk (off + ik * k) ((List.replicate (d.size - ik) zr).flatMap enc)) :=
                fun ty => clear_K S3.out R hds k0 25 34 ty z zr Try.underlying25 hv hz ik (d.size - ik) (cap - ik) (by omega) (by omega)
              have S6 : Aside (SWK enc k w blk off (layA dk ik (List.replicate (d.size - ik) zr)) (wr.setCells blk (off + ik * k) ((List.replicate (d.size - ik) zr).flatMap enc))) := swk_lay S3.out R.hk R.hblk ik _ (by simp; omega)
              go_wp2
              go_ret
              have hI := I2.out
              rw [hend] at hI
              refine ⟨by rw [hI.len]; rfl, _, S6.out, by rw [size_layA]; exact hds, ?_⟩
              have hlen := hI.len
              rw [layA_list _ _ _ (by simp; omega)]
              rw [hlen]
              have e9 : ik ≤ dk.toList.length := by simp; omega
              rw [List.append_assoc, List.take_append_of_le_length (by simp; omega), List.take_take, Nat.min_self]
              apply List.ext_getElem?
              intro j
              by_cases hj : j < ik
              · rw [List.getElem?_take_of_lt hj, Array.getElem?_toList, hI.low j hj, Array.getElem?_eq_getElem (by omega), getElem!_pos dk j (by omega)]
              · rw [List.getElem?_eq_none (by simp; omega), List.getElem?_eq_none (by omega)]
        · go_wp2_with fail
          go_quiet (fail)
          have S2 : Aside (SWK enc k w blk off d (wr.drewN nq)) := S1.out.drewN nq
          generalize wr.drewN nq = w2 at S2 ⊢
          clear l1 l2 S1 ea pa ba ra ec pc bc rc
          go_wp2
          go_roundg (d.size - (kk + 1))
          case measure => omega
          case rel =>
            refine ⟨kk + 1, by omega, by omega, Nat.le_refl _, by go_num, S2, show Aside _ from fun j hj => ?_⟩
            by_cases e : j = kk
            · subst e
              exact keeps_pos (by rw [B.out.1, B.out.2]; exact hdup)
            · exact hall.out j (by omega)
      · have : kk = d.size := by omega
        subst this
        go_wp2
        go_ret
        have e := same.out (fun j hj => hall.out j hj)
        exact ⟨by rw [e]; simp, d, S1.out, rfl, by rw [e, List.take_length]⟩
theorem slices_Compact_impl_Peg_impl_Peg.none (A0 : Option Addr) (c0 : Nat) (w : World) : Calls Try.prog 54 #[.slice A0 0 c0] w fun e w' => e = .returned (.slice A0 0 c0) ∧ w' = w := by
  go_enter Try.func54, Try.ntmps54
  go_wp2
  go_ret
  exact ⟨rfl, rfl⟩
theorem slices_Compact_impl_Peg_impl_Peg.calls (P0_ : Nat → Prop) (u9000_ : Value) (l0 : List S34) (r : List S34) (w0 w : World) (hB : Below w0.heap.size w0 w) (ho0 : Kd.R k34 34 w w0.heap.size P0_ u9000_ l0) (h : slices_Compact_impl_Peg_impl_Peg.f l0 = some r) :
    Calls Try.prog 54 #[u9000_] w fun e w' => ∃ v0_ : Value, e = .returned (v0_) ∧ Kd.R k34 34 w' w0.heap.size (fun k_ => (P0_ k_ ∨ w.heap.size ≤ k_)) v0_ r ∧ Below w0.heap.size w0 w' ∧ Kept w w' (fun k_ => P0_ k_) := by
  have hbig : l0.length < 4611686018427387904 := by
    rcases Nat.lt_or_ge l0.length 4611686018427387904 with h0 | h0
    · exact h0
    · unfold slices_Compact_impl_Peg_impl_Peg.f at h
      rw [if_neg (by omega)] at h
      cases h
  obtain rfl : compactUpTo l0.toArray l0.length = r := by
    unfold slices_Compact_impl_Peg_impl_Peg.f at h
    rw [if_pos hbig] at h
    exact Option.some.inj h
  rcases Nat.eq_zero_or_pos l0.length with hz | hne
  · obtain rfl : l0 = [] := List.length_eq_zero_iff.1 hz
    obtain ⟨A_, c_, rfl⟩ := Kd.R_slice ho0
    refine (slices_Compact_impl_Peg_impl_Peg.none A_ c_ w).mono fun e w' hq => ?_
    obtain ⟨rfl, rfl⟩ := hq
    exact ⟨_, rfl, Kd.R_mono ho0 (fun _ hk => .inl hk), hB, ⟨Nat.le_refl _, fun _ _ _ => rfl⟩⟩
  obtain ⟨g, cap, cur, rfl, hP, hg, hlt, hh, hl, hm, hs, hH⟩ := own_holdsK k34 34 encP34 rfl encP34_len kd_M34 ho0 hne
  have hcon := slices_Compact_impl_Peg_impl_Peg.walk 2 (by decide) Try.sizeOf34 encP34 slices_Compact_impl_Peg_impl_Peg.eql slices_Compact_impl_Peg_impl_Peg.neq (fun op a b x y w => run_eqGuard_agg w op 34 a b _ _ (by kernel_rfl)) (.agg #[.int .i64 0, .int .i64 0]) z34 Try.zeroValue34 rfl g 0 cap l0.toArray w ⟨encP34_len, encP34_one, hH, hlt⟩ (by simpa using hbig) (by simpa using hl)
  rw [List.size_toArray] at hcon
  refine hcon.mono fun e w' hq => ?_
  obtain ⟨rfl, d', ⟨m, os, rfl⟩, hds, htk⟩ := hq
  have hds' : d'.size = l0.length := by simpa using hds
  obtain ⟨hR, hsz, hblk⟩ := sort_own k34 34 encP34 rfl encP34_len (fun w base ok x => k34_mkM w base ok x) (n := m) (os := os) (d' := d') hP hg hlt hh hl hm hs hds'
  have hle : (compactUpTo l0.toArray l0.length).length ≤ l0.length := by
    unfold compactUpTo
    rw [List.length_map]
    exact Nat.le_trans (List.length_filter_le _ _) (by simp)
  have hT := Kd.R_take (m := (compactUpTo l0.toArray l0.length).length) hR (Nat.le_trans hle (Nat.le_of_eq (by rw [Array.length_toList (xs := d'), hds'])))
  rw [htk] at hT
  refine ⟨_, rfl, Kd.R_mono hT (fun _ hk => .inl hk), ⟨hB.os, hB.tape, hB.output, Nat.le_trans hB.size hsz, fun k hk => ?_⟩, ⟨hsz, fun k hk hn => hblk k hk (fun e_ => hn (e_ ▸ hP))⟩⟩
  rw [hblk k (Nat.lt_of_lt_of_le hk hB.size) (by omega)]
  exact hB.block k hk
end

/-! ### slices_Clone_impl_Peg_impl_Peg: function 88 -/
def slices_Clone_impl_Peg_impl_Peg.f (l0 : List (S34)) : Option ((List (S34))) := (some (([] : List (S34)) : List (S34))).bind fun y157 => (if y157.length + l0.length < 8796093022208 then (some (y157 ++ l0)) else (none))
set_option maxHeartbeats 8000000 in
set_option maxRecDepth 100000 in
theorem slices_Clone_impl_Peg_impl_Peg.calls (A0 : Option Addr) (c0 : Nat) (l0 : List (S34)) (r : List (S34)) (w : World) (hr0 : Kd.C k34 w A0 l0.length l0) (hc0 : l0.length ≤ c0) (h : slices_Clone_impl_Peg_impl_Peg.f l0 = some r) :
    Calls Try.prog 88 #[.slice A0 l0.length c0] w fun e w' => ∃ v0_ : Value, e = .returned (v0_) ∧ Kd.R k34 34 w' w.heap.size (fun _ => True) v0_ r ∧ Below w.heap.size w w' := by
  have HR0 := Aside0.mk hr0
  have HC0 := Aside0.mk hc0
  clear hr0 hc0
  have HB := Aside0.mk (Below.refl w.heap.size w)
  have H : ((some (([] : List (S34)) : List (S34))).bind fun y157 => (if y157.length + l0.length < 8796093022208 then (some (y157 ++ l0)) else (none))) = some r := h
  clear h
  by_cases hA_ : A0.isNone = true
  · have hl_ : l0 = [] := by
      rcases Nat.eq_zero_or_pos l0.length with h0 | h0
      · exact List.length_eq_zero_iff.1 h0
      · obtain ⟨ad, hq, _⟩ := HR0.out.2.2 h0
        rw [hq] at hA_
        simp at hA_
    subst hl_
    obtain rfl : r = [] := by simpa using H.symm
    obtain rfl : A0 = none := by simpa using hA_
    have hnil_ := fun (W : World) => Lib.run_eql_slice_nil (P := Try.prog) W 25 34 none 0 c0 0 0 Try.underlying25
    clear H
    simp only [List.length_nil]
    go_enter Try.func88, Try.ntmps88
    go_wp2
    go_ret
    exact ⟨.slice none 0 0, rfl, Kd.R_nil _ _ _ _ _, hb_⟩
  have hnil_ : ∀ W : World, (binOp .eql 25 (.slice A0 l0.length c0) (.slice none 0 0)).run Try.prog W = .ok (.bool false) W := fun W => by have h_ := Lib.run_eql_slice_nil (P := Try.prog) W 25 34 A0 l0.length c0 0 0 Try.underlying25; rw [Bool.eq_false_iff.mpr hA_] at h_; exact h_
  obtain ⟨y157, hy157⟩ : ∃ y_ : List (S34), y_ = (([] : List (S34))) := ⟨_, rfl⟩
  replace H : (if y157.length + l0.length < 8796093022208 then (some (y157 ++ l0)) else (none)) = some r := by first | (rw [hy157]; with_reducible exact H) | (have H2_ := (Option.bind_some _ _).symm.trans H; rw [hy157]; with_reducible exact H2_) | (have H2_ := (Option.bind_some _ _).symm.trans H; with_reducible exact H2_) | with_reducible exact H | (rw [hy157]; exact H) | exact H
  have Ny157 := Aside0.mk hy157
  clear hy157
  by_cases c2 : y157.length + l0.length < 8796093022208
  · rw [if_pos c2] at H
    have LMc2 := Aside0.mk c2
    clear c2
    obtain ⟨y160, hy160⟩ : ∃ y_ : List (S34), y_ = (y157 ++ l0) := ⟨_, rfl⟩
    replace H : (some y160) = some r := by first | (rw [hy160]; with_reducible exact H) | (have H2_ := (Option.bind_some _ _).symm.trans H; rw [hy160]; with_reducible exact H2_) | (have H2_ := (Option.bind_some _ _).symm.trans H; with_reducible exact H2_) | with_reducible exact H | (rw [hy160]; exact H) | exact H
    have Ny160 := Aside0.mk hy160
    clear hy160
    obtain rfl := Option.some.inj H
    go_enter Try.func88, Try.ntmps88
    go_wp2_with (first | ((with_reducible refine gate_dst (N := 5) rfl ?_); refine Kd.R_lit k34 _ 34 ?hg (N := 5) ?hd (xs := ([] : List (S34))) (inner := []) (ok := fun _ => True) (okp := fun _ => True) ?hr ?hp (fun _ hk => hk) trivial (Below.refl _ _) (Nat.le_refl _) (by simp) ?_; (case hd => rfl); (case hg => rfl); (case hr => first | (go_simp; done) | (go_simp; rfl)); (case hp => exact (Reps.none _ _)); intro v158 w3 ho4 hb hg_ hnew_; clear hg_ hnew_; (first | rw [← Ny157.out] at ho4 | (simp only [Int.reduceToNat] at ho4; rw [← Ny157.out] at ho4)); have n0_ := Aside0.mk (Kd.R_lower ho4 (below_size (hb_))); have n1_ := Aside0.mk (below_step (hb_) hb); clear HB; have HO159 := n0_; have HB := n1_; clear n0_ n1_; clear hb ho4) | ((with_reducible refine gate_builtin (b := .append) (xs := #[.tmp 5, .tmp 6]) rfl ?_); at_builtin; refine Kd.R_append_rows k34 (w0 := w) w.heap.size rfl (.tmp 5) (.tmp 6) 25 34 (.agg #[(.int .i64 0), (.int .i64 0)]) 16 rfl Try.underlying25 info34 rfl (by decide) (by omega) v158 y157 l0 _ _ _ (fun _ => True) (fun _ => False) rfl rfl ?aO ?aR (fun _ _ h => h) (fun _ h => h.elim) ?aF ?aB ?aS ?aL ?_; (case aR => repeat (first | exact (Kd.C_below HR0.out HB.out) | (with_reducible refine Kd.C_alloc ?_ _) | (with_reducible refine Kd.C_drewN ?_ _) | (with_reducible refine Kd.C_drew ?_))); (case aB => exact (hb_)); (case aF => exact (fun _ _ => trivial)); (case aO => exact (rk_ HO159.out)); (case aS => exact (below_size (hb_))); (case aL => have := LMc2.out; omega); intro v161 w5 ho hb hg hat; rw [← Ny160.out] at ho; have n0_ := Aside0.mk (hb); have n1_ := Aside0.mk (ho); clear HB; clear HO159; have HB := n0_; have HO162 := n1_; clear n0_ n1_; clear ho hb hg hat))
    go_ret
    exact ⟨_, by first | rfl | (simp [errW_none, errW_some] <;> rfl) | (simp [*, errW_none, errW_some] <;> rfl), by (with_reducible repeat (first | apply Kd.R_alloc | apply Kd.R_drewN | apply Kd.R_drew)); exact HO162.out, hb_⟩
  · rw [if_neg c2] at H
    exact absurd H (by simp)

/-! ### cmp_Or_int: function 104 -/
def cmp_Or_int.l0 : Nat → Int → List Int → Int → Int → Option (Int)
  | 0, _, _, _, _ => none
  | k + 1, x3, x6, x7, x8 => if x8 < x7 then (if 0 ≤ x8 then (if x8 < (x6.length : Int) then (if (rd x6 x8) = x3 then (cmp_Or_int.l0 k x3 x6 x7 (wrap64 (x8 + 1))) else (some (rd x6 x8))) else (none)) else (none)) else (some x3)
def cmp_Or_int.f (k : Nat) (l0 : List Int) : Option (Int) := cmp_Or_int.l0 k 0 l0 (l0.length : Int) 0
theorem cmp_Or_int.mono_l : ∀ k, (∀ y0 y1 y2 y3, LeO (cmp_Or_int.l0 k y0 y1 y2 y3) (cmp_Or_int.l0 (k + 1) y0 y1 y2 y3))
  | 0 => fun _ _ _ _ r h => by simp [cmp_Or_int.l0] at h
  | k + 1 => by
    have ih0 := cmp_Or_int.mono_l k
    · intro y0 y1 y2 y3
      unfold cmp_Or_int.l0
      repeat' first
      | (with_reducible exact ih0 _ _ _ _)
      | (with_reducible exact LeO.refl _)
      | (with_reducible exact LeO.none _)
      | (with_reducible refine LeO.ite ?_ ?_)
      | (with_reducible refine LeO.bind ?_ (fun _ => ?_))
      | exact ih0 _ _ _ _
      | exact LeO.none _
      | refine LeO.ite ?_ ?_
      | refine LeO.bind ?_ (fun _ => ?_)
theorem cmp_Or_int.mono : ∀ a0 k, LeO (cmp_Or_int.f k a0) (cmp_Or_int.f (k + 1) a0) := by
  intro a0 k
  have ih0 := cmp_Or_int.mono_l k
  unfold cmp_Or_int.f
  repeat' first
      | (with_reducible exact ih0 _ _ _ _)
      | (with_reducible exact LeO.refl _)
      | (with_reducible exact LeO.none _)
      | (with_reducible refine LeO.ite ?_ ?_)
      | (with_reducible refine LeO.bind ?_ (fun _ => ?_))
      | exact ih0 _ _ _ _
      | exact LeO.none _
      | refine LeO.ite ?_ ?_
      | refine LeO.bind ?_ (fun _ => ?_)
set_option maxHeartbeats 8000000 in
set_option maxRecDepth 100000 in
theorem cmp_Or_int.calls (k : Nat) (A0 : Option Addr) (c0 : Nat) (l0 : List Int) (r : Int) (w : World) (hr0 : Kd.C (Kd.int .i64) w A0 l0.length l0) (hc0 : l0.length ≤ c0) (h : cmp_Or_int.f k l0 = some r) :
    Calls Try.prog 104 #[.slice A0 l0.length c0] w fun e w' => e = .returned (.int .i64 r) ∧ Drawn0 w w' := by
  have HR0 := Aside0.mk hr0
  have HC0 := Aside0.mk hc0
  clear hr0 hc0
  have H : (cmp_Or_int.l0 k 0 l0 (l0.length : Int) 0) = some r := h
  clear h
  have H' := Aside0.mk H
  clear H
  go_enter Try.func104, Try.ntmps104
  go_wp2
  go_loopg [8] k (fun kq v8 w' => ∃ (x8_1 : Int), v8 = .int .i64 x8_1 ∧ Aside0 (cmp_Or_int.l0 kq 0 l0 (l0.length : Int) x8_1 = some r) ∧ Aside0 (kq ≤ k) ∧ Drawn0 w w')
  case atStart => exact ⟨(0), (by first | rfl | (simp; done) | (simp [*]; done)), H', ⟨Nat.le_refl _⟩, by repeat (first | exact Drawn0.refl _ | apply Drawn0.step)⟩
  case round =>
    clear H'
    try clear c1
    obtain ⟨x8_1, rfl, HA, HK1, ⟨m1, rfl⟩⟩ := hrel
    cases gk with
    | zero => exact absurd HA.out (by simp [cmp_Or_int.l0])
    | succ k1 =>
      have H := HA.out
      clear HA
      simp only [cmp_Or_int.l0] at H
      by_cases c2 : x8_1 < (l0.length : Int)
      · rw [if_pos c2] at H
        have c2b0 : decide (x8_1 < (l0.length : Int)) = true := decide_eq_true c2
        clear c2
        by_cases c3 : 0 ≤ x8_1
        · rw [if_pos c3] at H
          have c3b0 : decide (0 ≤ x8_1) = true := decide_eq_true c3
          clear c3
          by_cases c4 : x8_1 < (l0.length : Int)
          · rw [if_pos c4] at H
            have c4b0 : decide (x8_1 < (l0.length : Int)) = true := decide_eq_true c4
            clear c4
            by_cases c5 : (rd l0 x8_1) = 0
            · rw [if_pos c5] at H
              have c5b0 : ((rd l0 x8_1) == 0) = true := beq_iff_eq.mpr c5
              have c5b1 : ((rd l0 x8_1) != 0) = false := bne_eq_false_iff_eq.mpr c5
              clear c5
              have H' := Aside0.mk H
              clear H
              have p163 : 0 ≤ (x8_1 : Int) := odt_
              have q163 : x8_1 < (l0.length : Int) := odt_
              obtain ⟨ad163, e163, hx163_0⟩ := Kd.at_int HR0.out x8_1 p163 q163
              cases e163
              replace p163 := eq_true p163
              replace q163 := eq_true q163
              go_wp2
              go_roundg k1
              case measure => have := HK1.out; omega
              case rel => exact ⟨(wrap64 (x8_1 + 1)), (by first | rfl | (simp; done) | (simp [*]; done)), H', ⟨by have := HK1.out; omega⟩, by repeat (first | exact Drawn0.refl _ | apply Drawn0.step)⟩
            · rw [if_neg c5] at H
              have c5b0 : ((rd l0 x8_1) == 0) = false := beq_eq_false_iff_ne.mpr c5
              have c5b1 : ((rd l0 x8_1) != 0) = true := bne_iff_ne.mpr c5
              obtain rfl := Option.some.inj H
              have p163 : 0 ≤ (x8_1 : Int) := odt_
              have q163 : x8_1 < (l0.length : Int) := odt_
              obtain ⟨ad163, e163, hx163_0⟩ := Kd.at_int HR0.out x8_1 p163 q163
              cases e163
              replace p163 := eq_true p163
              replace q163 := eq_true q163
              go_wp2
              go_ret
              exact ⟨by first | rfl | (simp; done) | (simp [*]; done), by repeat (first | exact Drawn0.refl _ | apply Drawn0.step)⟩
          · rw [if_neg c4] at H
            exact absurd H (by simp)
        · rw [if_neg c3] at H
          exact absurd H (by simp)
      · rw [if_neg c2] at H
        have c2b0 : decide (x8_1 < (l0.length : Int)) = false := decide_eq_false c2
        clear c2
        obtain rfl := Option.some.inj H
        go_wp2
        go_ret
        exact ⟨by first | rfl | (simp; done) | (simp [*]; done), by repeat (first | exact Drawn0.refl _ | apply Drawn0.step)⟩

/-! ### cmp_isNaN_int: function 118 -/
def cmp_isNaN_int.f (a0 : Int) : Option (Bool) := some (a0 != a0)
set_option maxHeartbeats 8000000 in
set_option maxRecDepth 100000 in
theorem cmp_isNaN_int.calls (a0 : Int) (r : Bool) (w : World) (h : cmp_isNaN_int.f a0 = some r) :
    Calls Try.prog 118 #[.int .i64 a0] w fun e w' => e = .returned (.bool r) ∧ Drawn0 w w' := by
  have H : (some (a0 != a0)) = some r := h
  clear h
  obtain rfl := Option.some.inj H
  go_enter Try.func118, Try.ntmps118
  go_wp2
  go_ret
  exact ⟨by first | rfl | (simp; done) | (simp [*]; done), by repeat (first | exact Drawn0.refl _ | apply Drawn0.step)⟩

end Go.Proofs.Ytaclbccjcjdbpaa.MX
