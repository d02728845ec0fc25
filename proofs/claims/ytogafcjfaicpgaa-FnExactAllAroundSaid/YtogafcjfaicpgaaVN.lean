/- 'append(xs[:len(xs):len(xs)], v)': a row that is made, whatever xs is. No condition beyond those typed. -/
import Derived.Test.YtogafcjfaicpgaaV2
import Derived.ArgAppend
namespace Go.Proofs.YtogafcjfaicpgaaV
open Go.RowKit Go.Proofs.YtogafcjfaicpgaaW.PrintWords Go.Proofs.YtogafcjfaicpgaaW.PrintLast
/-- Elements that are told by their cells alone. -/
structure FlatKd {α : Type} (d : Kd α) (enc : α → List Value) : Prop where
  len : ∀ x, (enc x).length = d.sz
  one : ∀ x, ∀ u ∈ enc x, u.oneCell' = true
  K : ∀ {w x cs}, d.K w x cs → cs = enc x
  M : ∀ w base ok x, d.M w base ok x (enc x)
theorem FlatKd.reps {α : Type} {d : Kd α} {enc : α → List Value} (h : FlatKd d enc) (w : World) (base : Nat) (ok : Nat → Prop) (xs : List α) : Reps (d.M w base ok) d.sz xs (xs.flatMap enc) := by
  have hl : ∀ l : List α, (l.flatMap enc).length = l.length * d.sz := by
    intro l
    induction l with
    | nil => simp
    | cons x r ih => rw [List.flatMap_cons, List.length_append, ih, h.len, List.length_cons, Nat.add_mul, Nat.one_mul, Nat.add_comm]
  refine ⟨hl xs, fun j p hj => ?_⟩
  have hjl : j < xs.length := (List.getElem?_eq_some_iff.1 hj).1
  have e1 : xs.flatMap enc = (xs.take j).flatMap enc ++ (enc p ++ (xs.drop (j + 1)).flatMap enc) := by
    have hp : xs[j] = p := (List.getElem?_eq_some_iff.1 hj).2
    conv => lhs; rw [← List.take_append_drop j xs, List.flatMap_append, List.drop_eq_getElem_cons hjl, List.flatMap_cons, hp]
  rw [e1, List.drop_left' (by rw [hl, List.length_take, Nat.min_eq_left (by omega)]), List.take_left' (h.len p)]
  exact h.M w base ok p
section
variable {P : Program} {ops : Array Oper} {rest : List Oper} {o : Oper} {a : Act} {Q : Exit → Act → World → Prop} {Kc : Act → World → Prop} {α : Type}
theorem capapp_run (d : Kd α) (enc : α → List Value) (hf : FlatKd d enc) {W : World} (t ty e : TypeId) (z : Value) (bytes : Nat)
    (ht : P.underlying t = some (.slice e)) (hinfo : (P.info? e).map (fun i => (i.zero, i.size, i.bytes)) = some (some z, d.sz, bytes)) (hz : z.cells.size = d.sz) (hs0 : 0 < d.sz) {b : Addr} {n : Nat} {xs : List α} {p : α}
    (hC : d.C W (some b) n xs) (hl : (xs.length + 1) * bytes ≤ 140737488355328) (hb0 : 0 < bytes) :
    ∃ v1 w1, (Builtin.append_ #[t, t] ty #[.slice (some b) n n, .slice (some ⟨W.heap.size, 0, none⟩) 1 1]).run P (W.alloc (.cells (enc p).toArray e)) = .ok v1 w1 ∧ d.R e w1 W.heap.size (fun _ => True) v1 (xs ++ [p]) ∧ Below W.heap.size W w1 ∧ W.grownBy w1 none ∧ ∃ k, v1.ownBlock = some k ∧ W.heap.size ≤ k := by
  obtain ⟨i0, hi, hzz⟩ := Option.map_eq_some_iff.1 hinfo
  simp only [Prod.mk.injEq] at hzz
  obtain ⟨hz0, hz1, hz2⟩ := hzz
  obtain ⟨hn, hm, hcell⟩ := hC
  have hfl : (xs.flatMap enc).length = n * d.sz := by
    have := (hf.reps W 0 (fun _ => True) xs).1
    rw [this, hn]
  have hlen : xs.length + 1 ≤ 140737488355328 := Nat.le_trans (Nat.le_mul_of_pos_right _ hb0) hl
  have hal := World.grownBy_alloc W (.cells (enc p).toArray e) none
  have holds : ∀ j u, (xs.flatMap enc)[j]? = some u → (W.alloc (.cells (enc p).toArray e)).cell? (b.add j) = some u := by
    intro j u hu
    have hj : j < n * d.sz := by
      have := (List.getElem?_eq_some_iff.1 hu).1
      omega
    have hpos : 0 < n := by
      rcases Nat.eq_zero_or_pos n with h | h
      · rw [h, Nat.zero_mul] at hj
        omega
      · exact h
    obtain ⟨ad, hA, hx⟩ := hcell hpos
    obtain rfl : b = ad := Option.some.inj hA
    have hq : j / d.sz < xs.length := by
      rw [hn]
      exact Nat.div_lt_of_lt_mul (by rw [Nat.mul_comm]; exact hj)
    obtain ⟨cs, hcl, hK, hc⟩ := hx (j / d.sz) xs[j / d.sz] (List.getElem?_eq_getElem hq)
    obtain rfl := hf.K hK
    have hseg := (hf.reps W 0 (fun _ => True) xs).2 (j / d.sz) xs[j / d.sz] (List.getElem?_eq_getElem hq)
    have e2 : (((xs.flatMap enc).drop (j / d.sz * d.sz)).take d.sz) = enc xs[j / d.sz] := hf.K (d.K_of_M hseg)
    have e3 : (((xs.flatMap enc).drop (j / d.sz * d.sz)).take d.sz)[j % d.sz]? = some u := by
      rw [List.getElem?_take_of_lt (Nat.mod_lt _ hs0), List.getElem?_drop, Nat.mul_comm, Nat.div_add_mod]
      exact hu
    rw [e2] at e3
    have h4 := hc (j % d.sz) u e3
    rw [Nat.mul_comm, Nat.div_add_mod] at h4
    exact (World.cell?_alloc_lt _ _ _ (World.block_lt_of_cell? _ _ h4)).trans h4
  obtain ⟨v1, w1, hr, hown, hg⟩ := run_append_arg_grows (P := P) (w := W.alloc (.cells (enc p).toArray e)) t ty e i0 z d.sz bytes ht hi hz0 hz1 hz2 hz hs0 b n n (xs.flatMap enc) hfl holds ⟨W.heap.size, 0, none⟩ 1 1 (enc p) (by rw [hf.len, Nat.one_mul])
    (by simpa using World.news_of_block (cs := (enc p).toArray) (t := e) (fr := (0, 0)) (heap_alloc_new W (.cells (enc p).toArray e))) (by omega) (by simp only [maxLen]; omega) (by rw [← hn]; exact hl)
  have hsz : (W.alloc (.cells (enc p).toArray e)).heap.size = W.heap.size + 1 := by simp
  have hgW : W.grownBy w1 none := World.grownBy.trans hal hg
  have hblk : ∃ k, v1.ownBlock = some k ∧ W.heap.size ≤ k := by
    rcases hown.2 with ⟨_, h0⟩ | ⟨g, cap, cur, rfl, hb, _⟩
    · omega
    · exact ⟨g, rfl, by omega⟩
  refine ⟨v1, w1, hr, ⟨fun _ _ => trivial, (xs ++ [p]).flatMap enc, ?_, hf.reps _ _ _ _⟩, ⟨hgW.os, hgW.tape, hgW.output, hgW.size, fun k hk => hgW.block k hk (by simp)⟩, hgW, hblk⟩
  have hcat : (xs ++ [p]).flatMap enc = xs.flatMap enc ++ enc p := by simp
  rw [hcat, List.length_append, List.length_singleton, hn]
  refine ⟨hown.1, ?_⟩
  rcases hown.2 with h | ⟨g, cap, cur, h1, h2, h3, h4, h5, h6, h7⟩
  · exact .inl h
  · exact .inr ⟨g, cap, cur, h1, by omega, h3, h4, h5, h6, h7⟩
theorem R_capapp (d : Kd α) (enc : α → List Value) (hf : FlatKd d enc) {W : World} (hgd : o.guard = none) (s x : Operand) (t e : TypeId) (z : Value) (bytes : Nat) (ho : o.op = .call { callee := .builtin .append, args := #[s, x], argTypes := #[t, t] })
    (ht : P.underlying t = some (.slice e)) (hinfo : (P.info? e).map (fun i => (i.zero, i.size, i.bytes)) = some (some z, d.sz, bytes)) (hz : z.cells.size = d.sz) (hs0 : 0 < d.sz) (hb0 : 0 < bytes) {A : Option Addr} {n m : Nat} (xs : List α) (p : α) (cs : List Value)
    (hs : a.eval s = .slice A n m) (hnm : m = n) (hx : a.eval x = .slice (some ⟨W.heap.size, 0, none⟩) 1 1) (hcs : cs = enc p) (hC : d.C W A n xs) (hl : (xs.length + 1) * bytes ≤ 140737488355328)
    (h : ∀ v1 w1, d.R e w1 W.heap.size (fun _ => True) v1 (xs ++ [p]) → Below W.heap.size W w1 → W.grownBy w1 none → (∃ b, v1.ownBlock = some b ∧ W.heap.size ≤ b) → wpList P ops Q rest (a.put o.dst v1) w1) :
    wpList P ops Q (o :: rest) a (W.alloc (.cells cs.toArray e)) := by
  subst hcs hnm
  rcases A with _ | b
  · obtain ⟨hn, _, hcell⟩ := hC
    have h0 : m = 0 := by
      rcases Nat.eq_zero_or_pos m with h | h
      · exact h
      · obtain ⟨ad, hA, _⟩ := hcell h
        cases hA
    subst h0
    obtain rfl : xs = [] := List.length_eq_zero_iff.1 hn
    refine Kd.R_append d (w0 := W) W.heap.size hgd s x t e z bytes ho ht hinfo hz hs0 hb0 (.slice none 0 0) [] p (enc p) (fun _ => True) (fun _ => False) hs hx (hf.M _ _ _ _) (fun _ hk => hk.elim) (fun _ _ => trivial) (Kd.R_nil _ _ _ _ _) (Below.refl _ _) (Nat.le_refl _) (by simpa using hl) ?_
    intro v1 w1 hr hb hg hat
    refine h v1 w1 hr hb hg ?_
    rcases hat with hat | hat
    · obtain ⟨g, cap, hv, hbg, _⟩ := Kd.R_form hr (by simp)
      subst hv
      cases hat
    · exact hat
  · obtain ⟨v1, w1, hr, h1, h2, h3, h4⟩ := capapp_run (P := P) d enc hf t o.type e z bytes ht hinfo hz hs0 (p := p) hC hl hb0
    refine wpList_plain hgd fun K hK => ?_
    unfold Oper.wp execOp
    simp only [ho, resolve, invoke, builtin, Sem.run_bind, Sem.run_pure, Result.andThen_ok, List.map_toArray, List.map_cons, List.map_nil, hs, hx, hr]
    exact hK _ _ (h v1 w1 h1 h2 h3 h4)
theorem R_capapp_step (d : Kd α) (enc : α → List Value) (hf : FlatKd d enc) {W : World} (hw : Region.wanted o (yielded ops a.tmps) = true) (s x : Operand) (t e : TypeId) (z : Value) (bytes : Nat) (ho : o.op = .call { callee := .builtin .append, args := #[s, x], argTypes := #[t, t] })
    (ht : P.underlying t = some (.slice e)) (hinfo : (P.info? e).map (fun i => (i.zero, i.size, i.bytes)) = some (some z, d.sz, bytes)) (hz : z.cells.size = d.sz) (hs0 : 0 < d.sz) (hb0 : 0 < bytes) {A : Option Addr} {n m : Nat} (xs : List α) (p : α) (cs : List Value)
    (hs : a.eval s = .slice A n m) (hnm : m = n) (hx : a.eval x = .slice (some ⟨W.heap.size, 0, none⟩) 1 1) (hcs : cs = enc p) (hC : d.C W A n xs) (hl : (xs.length + 1) * bytes ≤ 140737488355328)
    (h : ∀ v1 w1, d.R e w1 W.heap.size (fun _ => True) v1 (xs ++ [p]) → Below W.heap.size W w1 → W.grownBy w1 none → (∃ b, v1.ownBlock = some b ∧ W.heap.size ≤ b) → Kc (a.put o.dst v1) w1) :
    if Region.wanted o (yielded ops a.tmps) = true then Oper.wp P o a (W.alloc (.cells cs.toArray e)) Kc Q else Kc (a.put o.dst undef) (W.alloc (.cells cs.toArray e)) := by
  subst hcs hnm
  rcases A with _ | b
  · obtain ⟨hn, _, hcell⟩ := hC
    have h0 : m = 0 := by
      rcases Nat.eq_zero_or_pos m with h | h
      · exact h
      · obtain ⟨ad, hA, _⟩ := hcell h
        cases hA
    subst h0
    obtain rfl : xs = [] := List.length_eq_zero_iff.1 hn
    refine Kd.R_append_step d (w0 := W) W.heap.size hw s x t e z bytes ho ht hinfo hz hs0 hb0 (.slice none 0 0) [] p (enc p) (fun _ => True) (fun _ => False) hs hx (hf.M _ _ _ _) (fun _ hk => hk.elim) (fun _ _ => trivial) (Kd.R_nil _ _ _ _ _) (Below.refl _ _) (Nat.le_refl _) (by simpa using hl) ?_
    intro v1 w1 hr hb hg hat
    refine h v1 w1 hr hb hg ?_
    rcases hat with hat | hat
    · obtain ⟨g, cap, hv, hbg, _⟩ := Kd.R_form hr (by simp)
      subst hv
      cases hat
    · exact hat
  · obtain ⟨v1, w1, hr, h1, h2, h3, h4⟩ := capapp_run (P := P) d enc hf t o.type e z bytes ht hinfo hz hs0 (p := p) hC hl hb0
    rw [if_pos hw]
    unfold Oper.wp execOp
    simp only [ho, resolve, invoke, builtin, Sem.run_bind, Sem.run_pure, Result.andThen_ok, List.map_toArray, List.map_cons, List.map_nil, hs, hx, hr]
    exact h v1 w1 h1 h2 h3 h4
end
theorem cut_cap {P : Program} (t e : TypeId) (kh km : IntKind) {i : TypeInfo} (ht : P.underlying t = some (.slice e)) (hi : P.info? e = some i) (A : Option Addr) (n c : Nat) (j m : Int) (hj : j = (n : Int)) (hm : m = (n : Int)) (hc : n ≤ c) :
    ∀ W : World, (Instr.slice t (.slice A n c) none (some (.int kh j)) (some (.int km m))).run P W = .ok (.slice A n n) W := by
  intro W
  subst hj hm
  have hel : P.elem t = e := by simp [Program.elem, ht]
  have hu : P.underlying t = some (.slice (P.elem t)) := by rw [hel]; exact ht
  have ha : (A.map fun x => x.add 0) = A := by cases A <;> simp [Addr.add]
  rw [run_slice_hm W t A n c hu kh km (n : Int) (n : Int) (by omega) (Int.le_refl _) (by omega), hel]
  simp [sizeOf, typeInfo, hi, sliced, Result.andThen, ha]
end Go.Proofs.YtogafcjfaicpgaaV
