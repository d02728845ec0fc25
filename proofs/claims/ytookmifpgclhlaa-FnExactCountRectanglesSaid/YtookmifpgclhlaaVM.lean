/- A map of the call's own, its keys structs of three whole numbers, its elements whole numbers: 'm[k]++' and a range over it, told by the list of its entries. No condition beyond those typed. -/
import Derived.Test.YtookmifpgclhlaaV2
import Derived.WideKeyEntry
import Derived.DeepKeys4
import Derived.Maps.RangeRun
namespace Go.Proofs.YtookmifpgclhlaaV
open Go.RowKit Go.Proofs.YtookmifpgclhlaaW.PrintWords Go.Proofs.YtookmifpgclhlaaW.PrintLast
open Go.ChangeMaps (setBlock)
open Go.WideMaps (KeyLaw)
abbrev K3 := Int × Int × Int
/-- A key, as a value. -/
def KV (x : K3) : Value := .agg #[.int .i64 x.1, .int .i64 x.2.1, .int .i64 x.2.2]
theorem KV_inj {x y : K3} (h : KV x = KV y) : x = y := by
  obtain ⟨a, b, c⟩ := x
  obtain ⟨d, e, f⟩ := y
  simp [KV] at h
  simp [h]
/-- The entries, each with its number. -/
def esL : Nat → List (K3 × Int) → List MapEntry
  | _, [] => []
  | n, p :: r => ⟨KV p.1, .int .i64 p.2, n⟩ :: esL (n + 1) r
def mapO (cs : List (K3 × Int)) : Obj := .map (esL 0 cs).toArray cs.length
def idxC (cs : List (K3 × Int)) (x : K3) : Nat := cs.findIdx (fun p => p.1 == x)
def cntC (cs : List (K3 × Int)) (x : K3) : Int := ((cs[idxC cs x]?).map (·.2)).getD 0
def enC (cs : List (K3 × Int)) (x : K3) : List (K3 × Int) := if idxC cs x < cs.length then cs else cs ++ [(x, 0)]
/-- 'm[x]++'. -/
def putC (cs : List (K3 × Int)) (x : K3) : List (K3 × Int) := (enC cs x).set (idxC cs x) (x, wrap64 (cntC cs x + 1))
def keyK (P : Program) (k : TypeId) (x : K3) : Prop := ∃ l, keyOf P k (KV x) = some l
def GoodC (P : Program) (k : TypeId) (cs : List (K3 × Int)) : Prop := (cs.map (·.1)).Nodup ∧ ∀ p ∈ cs, keyK P k p.1
theorem esL_get (cs : List (K3 × Int)) : ∀ (n j : Nat), (esL n cs)[j]? = cs[j]?.map fun p => (⟨KV p.1, .int .i64 p.2, n + j⟩ : MapEntry) := by
  induction cs with
  | nil => intro n j; simp [esL]
  | cons p r ih =>
    intro n j
    cases j with
    | zero => simp [esL]
    | succ j =>
      simp only [esL, List.getElem?_cons_succ, ih]
      congr 1
      funext q
      simp only [MapEntry.mk.injEq, true_and]
      omega
theorem esL_length (cs : List (K3 × Int)) : ∀ n, (esL n cs).length = cs.length := by
  induction cs with
  | nil => intro n; rfl
  | cons p r ih => intro n; simp [esL, ih]
theorem esL_mem {cs : List (K3 × Int)} {n : Nat} {e : MapEntry} (h : e ∈ esL n cs) : ∃ j, ∃ p, cs[j]? = some p ∧ e = ⟨KV p.1, .int .i64 p.2, n + j⟩ := by
  obtain ⟨j, hj⟩ := List.getElem?_of_mem h
  rw [esL_get] at hj
  obtain ⟨p, hp, he⟩ := Option.map_eq_some_iff.1 hj
  exact ⟨j, p, hp, he.symm⟩
theorem esL_set (cs : List (K3 × Int)) (p : K3 × Int) (n j : Nat) : esL n (cs.set j p) = (esL n cs).set j ⟨KV p.1, .int .i64 p.2, n + j⟩ := by
  apply List.ext_getElem?
  intro i
  rw [esL_get, List.getElem?_set, List.getElem?_set, esL_get, esL_length]
  by_cases h : j = i
  · subst h
    by_cases h2 : j < cs.length
    · simp [h2]
    · simp [h2]
  · simp [h]
theorem esL_append (cs : List (K3 × Int)) (p : K3 × Int) : ∀ n, esL n (cs ++ [p]) = esL n cs ++ [⟨KV p.1, .int .i64 p.2, n + cs.length⟩] := by
  induction cs with
  | nil => intro n; simp [esL]
  | cons q r ih =>
    intro n
    simp only [List.cons_append, esL, ih, List.length_cons]
    rw [show n + 1 + r.length = n + (r.length + 1) by omega]
theorem idx_lt {cs : List (K3 × Int)} {x : K3} (h : idxC cs x < cs.length) : (cs[idxC cs x]'h).1 = x := by
  have := List.findIdx_getElem (p := fun p : K3 × Int => p.1 == x) (xs := cs) (w := h)
  exact eq_of_beq this
theorem idx_le (cs : List (K3 × Int)) (x : K3) : idxC cs x ≤ cs.length := List.findIdx_le_length
theorem idx_not {cs : List (K3 × Int)} {x : K3} (h : ¬ idxC cs x < cs.length) : ∀ p ∈ cs, p.1 ≠ x := by
  have h1 : idxC cs x = cs.length := Nat.le_antisymm (idx_le cs x) (Nat.le_of_not_lt h)
  have := List.findIdx_eq_length.1 h1
  intro p hp
  have := this p hp
  simpa using this
section
variable {P : Program} {k : TypeId} {cs : List (K3 × Int)} {x : K3}
theorem GoodC.keys (G : GoodC P k cs) : ∀ e ∈ esL 0 cs, ∃ l, keyOf P k e.key = some l := by
  intro e he
  obtain ⟨j, p, hp, rfl⟩ := esL_mem he
  exact G.2 p (List.mem_of_getElem? hp)
theorem GoodC.one (G : GoodC P k cs) {i j : Nat} {p q : K3 × Int} (hi : cs[i]? = some p) (hj : cs[j]? = some q) (h : p.1 = q.1) : i = j := by
  have hil := (List.getElem?_eq_some_iff.1 hi).1
  have h2 : (cs.map (·.1))[i]? = (cs.map (·.1))[j]? := by rw [List.getElem?_map, List.getElem?_map, hi, hj, Option.map_some, Option.map_some, h]
  exact (List.getElem?_inj (by simpa using hil) G.1).1 h2
theorem find_C (K : KeyLaw P k) (G : GoodC P k cs) (hx : keyK P k x) (w : World) :
    (Instr.findKey k (KV x) (esL 0 cs)).run P w = .ok (if idxC cs x < cs.length then some (idxC cs x, .int .i64 (cntC cs x)) else none) w := by
  obtain ⟨l, hl⟩ := hx
  by_cases h : idxC cs x < cs.length
  · rw [if_pos h]
    have hg : cs[idxC cs x]? = some cs[idxC cs x] := List.getElem?_eq_getElem h
    rcases K.find w hl (esL 0 cs) G.keys with ⟨_, h2⟩ | ⟨j, e, h1, h2, h3⟩
    · have hm : (⟨KV (cs[idxC cs x]).1, .int .i64 (cs[idxC cs x]).2, 0 + idxC cs x⟩ : MapEntry) ∈ esL 0 cs := List.mem_of_getElem? (i := idxC cs x) (by rw [esL_get, hg]; rfl)
      exact absurd (congrArg KV (idx_lt h)) (h2 _ hm)
    · rw [esL_get] at h2
      obtain ⟨p, hp, rfl⟩ := Option.map_eq_some_iff.1 h2
      have hpx : p.1 = x := KV_inj h3
      have hj : j = idxC cs x := G.one hp hg (by rw [hpx, idx_lt h])
      subst hj
      rw [h1, cntC, hp]
      rfl
  · rw [if_neg h]
    rcases K.find w hl (esL 0 cs) G.keys with ⟨h1, _⟩ | ⟨j, e, _, h2, h3⟩
    · exact h1
    · rw [esL_get] at h2
      obtain ⟨p, hp, rfl⟩ := Option.map_eq_some_iff.1 h2
      exact absurd (KV_inj h3) (idx_not h p (List.mem_of_getElem? hp))
theorem GoodC.en (G : GoodC P k cs) (hx : keyK P k x) : GoodC P k (enC cs x) := by
  unfold enC
  by_cases h : idxC cs x < cs.length
  · rw [if_pos h]
    exact G
  · rw [if_neg h]
    refine ⟨?_, fun p hp => ?_⟩
    · rw [List.map_append, List.nodup_append]
      refine ⟨G.1, by simp, fun a ha b hb => ?_⟩
      simp only [List.map_cons, List.map_nil, List.mem_singleton] at hb
      subst hb
      obtain ⟨p, hp, rfl⟩ := List.mem_map.1 ha
      exact idx_not h p hp
    · rcases List.mem_append.1 hp with hp | hp
      · exact G.2 p hp
      · rw [List.mem_singleton] at hp
        subst hp
        exact hx
theorem en_idx (cs : List (K3 × Int)) (x : K3) : idxC (enC cs x) x = idxC cs x ∧ idxC cs x < (enC cs x).length := by
  unfold enC
  by_cases h : idxC cs x < cs.length
  · rw [if_pos h]
    exact ⟨rfl, h⟩
  · rw [if_neg h]
    have h1 : idxC cs x = cs.length := Nat.le_antisymm (idx_le cs x) (Nat.le_of_not_lt h)
    refine ⟨?_, by rw [h1]; simp⟩
    unfold idxC at h1 ⊢
    rw [List.findIdx_append, h1, if_neg (Nat.lt_irrefl _)]
    simp [List.findIdx_cons]
theorem en_cnt (cs : List (K3 × Int)) (x : K3) : cntC (enC cs x) x = cntC cs x := by
  unfold cntC
  rw [(en_idx cs x).1]
  unfold enC
  by_cases h : idxC cs x < cs.length
  · rw [if_pos h]
  · rw [if_neg h]
    have h1 : idxC cs x = cs.length := Nat.le_antisymm (idx_le cs x) (Nat.le_of_not_lt h)
    rw [h1]
    simp
theorem GoodC.put (G : GoodC P k cs) (hx : keyK P k x) : GoodC P k (putC cs x) := by
  have G1 := G.en hx
  have hlt := (en_idx cs x).2
  have hk : ((enC cs x)[idxC cs x]'hlt).1 = x := by
    have := idx_lt (cs := enC cs x) (x := x) (by rw [(en_idx cs x).1]; exact hlt)
    simpa only [(en_idx cs x).1] using this
  unfold putC
  refine ⟨?_, fun p hp => ?_⟩
  · have : ((enC cs x).set (idxC cs x) (x, wrap64 (cntC cs x + 1))).map (·.1) = (enC cs x).map (·.1) := by
      apply List.ext_getElem?
      intro i
      rw [List.getElem?_map, List.getElem?_map, List.getElem?_set]
      by_cases h : idxC cs x = i
      · subst h
        rw [if_pos rfl, if_pos hlt, List.getElem?_eq_getElem hlt, Option.map_some, Option.map_some, hk]
      · rw [if_neg h]
    rw [this]
    exact G1.1
  · rcases List.mem_or_eq_of_mem_set hp with hp | rfl
    · exact G1.2 p hp
    · exact hx
variable {t e : TypeId} {b : Nat} {w : World}
theorem run_lookC (K : KeyLaw P k) (ht : P.underlying t = some (.map k e)) (hz : ∀ u : World, (zeroValue e).run P u = .ok (.int .i64 0) u) (G : GoodC P k cs) (hx : keyK P k x) (hb : w.heap[b]? = some (mapO cs)) :
    (Instr.lookup t (.map (some b)) (KV x) false).run P w = .ok (.int .i64 (cntC cs x)) w := by
  have hf := find_C K G hx w
  obtain ⟨l, hl⟩ := hx
  unfold mapO at hb
  by_cases h : idxC cs x < cs.length
  · rw [if_pos h] at hf
    simp [Instr.lookup, run_underlying ht, MapKept.run_getObj_map hb, K.check w _ hl, hf, Result.andThen]
  · rw [if_neg h] at hf
    have h1 : idxC cs x = cs.length := Nat.le_antisymm (idx_le cs x) (Nat.le_of_not_lt h)
    simp [Instr.lookup, run_underlying ht, MapKept.run_getObj_map hb, K.check w _ hl, hf, hz, Result.andThen, cntC, h1]
theorem run_entryC (K : KeyLaw P k) (ht : P.underlying t = some (.map k e)) (hz : ∀ u : World, (zeroValue e).run P u = .ok (.int .i64 0) u) (G : GoodC P k cs) (hx : keyK P k x) (hb : w.heap[b]? = some (mapO cs)) :
    (Instr.mapEntry t (.map (some b)) (KV x)).run P w = .ok (.tuple #[.int .i64 (cntC cs x), goInt (idxC cs x)]) (setBlock w b (mapO (enC cs x))) := by
  have hf := find_C K G hx w
  obtain ⟨l, hl⟩ := hx
  unfold mapO at hb
  by_cases h : idxC cs x < cs.length
  · rw [if_pos h] at hf
    have hk := idx_lt h
    have hg : (esL 0 cs)[idxC cs x]? = some ⟨KV x, .int .i64 (cs[idxC cs x]).2, idxC cs x⟩ := by
      rw [esL_get, List.getElem?_eq_getElem h, Option.map_some, hk, Nat.zero_add]
    have hmod : (esL 0 cs).modify (idxC cs x) (fun e => { e with key := KV x }) = esL 0 cs := by
      apply List.ext_getElem?
      intro i
      rw [List.getElem?_modify]
      by_cases hi : idxC cs x = i
      · subst hi
        rw [hg]
        simp
      · simp [hi]
    have hs := K.stays w hl
    simp [Instr.mapEntry, run_underlying ht, MapKept.run_getObj_map hb, K.check w false hl, hf, hg, hs, hmod, MapKept.run_setObj_map _ hb, Result.andThen, setBlock, enC, h, mapO]
  · rw [if_neg h] at hf
    have h1 : idxC cs x = cs.length := Nat.le_antisymm (idx_le cs x) (Nat.le_of_not_lt h)
    have hp : esL 0 cs ++ [⟨KV x, .int .i64 0, cs.length⟩] = esL 0 (cs ++ [(x, 0)]) := by
      rw [esL_append, Nat.zero_add]
    simp [Instr.mapEntry, run_underlying ht, MapKept.run_getObj_map hb, K.check w false hl, hf, hz, hp, MapKept.run_setObj_map _ hb, Result.andThen, setBlock, enC, mapO, cntC, h1]
theorem run_estoreC {i : Nat} (hi : i < cs.length) (v : Int) (hb : w.heap[b]? = some (mapO cs)) :
    (Instr.entryStore t (.map (some b)) (goInt i) (.int .i64 v)).run P w = .ok () (setBlock w b (mapO (cs.set i (cs[i].1, v)))) := by
  unfold mapO at hb
  have hidx : (esL 0 cs).toArray.findIdx? (fun e => ((e.born : Nat) : Int) == ((i : Nat) : Int)) = some i := by
    rw [Go.WideElems.findIdx_arr]
    show (esL 0 cs).findIdx? _ = _
    rw [List.findIdx?_eq_some_iff_getElem]
    have hl : i < (esL 0 cs).length := by rw [esL_length]; exact hi
    have hb2 : ∀ j (hj : j < (esL 0 cs).length), ((esL 0 cs)[j]).born = j := by
      intro j hj
      have h1 := esL_get cs 0 j
      rw [List.getElem?_eq_getElem hj] at h1
      obtain ⟨p, _, hp⟩ := Option.map_eq_some_iff.1 h1.symm
      rw [← hp]
      simp
    refine ⟨hl, by rw [hb2 i hl]; simp, fun j hj => ?_⟩
    rw [hb2 j (by omega)]
    simp
    omega
  have hmod : (esL 0 cs).modify i (fun e => { e with val := .int .i64 v }) = esL 0 (cs.set i (cs[i].1, v)) := by
    rw [esL_set]
    apply List.ext_getElem?
    intro j
    rw [List.getElem?_modify, List.getElem?_set]
    by_cases hj : i = j
    · subst hj
      rw [if_pos rfl, if_pos (by rw [esL_length]; exact hi), esL_get, List.getElem?_eq_getElem hi]
      simp
    · simp [hj]
  simp [Instr.entryStore, MapKept.run_getObj_map hb, asInt, asIntOf, goInt, hidx, hmod, MapKept.run_setObj_map _ hb, Result.andThen, setBlock, mapO]
/-- The store behind the entry: what 'm[x]++' makes. -/
theorem run_estore_put (v : Int) (hv : v = wrap64 (cntC cs x + 1)) (hb : w.heap[b]? = some (mapO (enC cs x))) :
    (Instr.entryStore t (.map (some b)) (goInt (idxC cs x)) (.int .i64 v)).run P w = .ok () (setBlock w b (mapO (putC cs x))) := by
  have hlt := (en_idx cs x).2
  have hk : ((enC cs x)[idxC cs x]'hlt).1 = x := by
    have := idx_lt (cs := enC cs x) (x := x) (by rw [(en_idx cs x).1]; exact hlt)
    simpa only [(en_idx cs x).1] using this
  subst hv
  rw [run_estoreC hlt _ hb, hk]
  rfl
end
theorem keyLits_struct {P : Program} {d : Nat} {t : TypeId} {cs : List Value} {fs : Array Field} (hu : P.underlying t = some (.struct fs)) :
    P.keyLits (d + 1) t cs = if cs.length = P.cellsOf t ∧ fs.all (·.name != "_") = true then (fs.toList.mapM fun f => P.keyLits d f.type ((cs.drop f.offset).take (P.cellsOf f.type))).map List.flatten else none := by
  conv => lhs; unfold Program.keyLits
  simp only [hu]
/-- A key of three whole numbers reads as a key. -/
theorem keyK_of {P : Program} {k k2 ti : TypeId} {fs gs : Array Field} {n : Nat} (hs : P.types.size = n + 2) (hkt : P.keyType k = true) (hc : P.cellsOf k = 3) (hc2 : P.cellsOf k2 = 2) (hci : P.cellsOf ti = 1)
    (hu : P.underlying k = some (.struct fs)) (hu2 : P.underlying k2 = some (.struct gs)) (hui : P.underlying ti = some (.int .i64))
    (hf : fs.toList.map (fun f => (f.type, f.offset)) = [(k2, 0), (ti, 2)]) (hg : gs.toList.map (fun f => (f.type, f.offset)) = [(ti, 0), (ti, 1)]) (hfn : fs.all (·.name != "_") = true) (hgn : gs.all (·.name != "_") = true)
    {x : K3} (h1 : (Lit.int .i64 x.1).wf = true) (h2 : (Lit.int .i64 x.2.1).wf = true) (h3 : (Lit.int .i64 x.2.2).wf = true) : keyK P k x := by
  obtain ⟨a, b, c⟩ := x
  obtain ⟨f0, f1, rfl, e0, e1⟩ : ∃ f0 f1, fs = #[f0, f1] ∧ (f0.type = k2 ∧ f0.offset = 0) ∧ (f1.type = ti ∧ f1.offset = 2) := by
    obtain ⟨l⟩ := fs
    rcases l with _ | ⟨f0, _ | ⟨f1, _ | _⟩⟩ <;> simp at hf
    exact ⟨f0, f1, rfl, ⟨hf.1.1, hf.1.2⟩, ⟨hf.2.1, hf.2.2⟩⟩
  obtain ⟨g0, g1, rfl, d0, d1⟩ : ∃ g0 g1, gs = #[g0, g1] ∧ (g0.type = ti ∧ g0.offset = 0) ∧ (g1.type = ti ∧ g1.offset = 1) := by
    obtain ⟨l⟩ := gs
    rcases l with _ | ⟨g0, _ | ⟨g1, _ | _⟩⟩ <;> simp at hg
    exact ⟨g0, g1, rfl, ⟨hg.1.1, hg.1.2⟩, ⟨hg.2.1, hg.2.2⟩⟩
  have hL : P.keyLits (P.types.size + 1) k [.int .i64 a, .int .i64 b, .int .i64 c] = some [.int .i64 a, .int .i64 b, .int .i64 c] := by
    rw [hs]
    have i1 : ∀ (m : Nat) (y : Int), (Lit.int .i64 y).wf = true → P.keyLits (m + 1) ti [.int .i64 y] = some [.int .i64 y] := by
      intro m y hy
      simp [Program.keyLits, hui, hy]
    have i2 : P.keyLits (n + 2) k2 [.int .i64 a, .int .i64 b] = some [.int .i64 a, .int .i64 b] := by
      have h1' : (Lit.int .i64 a).wf = true := h1
      have h2' : (Lit.int .i64 b).wf = true := h2
      have hgn' : (¬ g0.name = "_") ∧ (¬ g1.name = "_") := by simpa using hgn
      rw [keyLits_struct hu2]
      simp [hgn'.1, hgn'.2, hc2, d0.1, d0.2, d1.1, d1.2, hci, i1 n _ h1', i1 n _ h2']
    have h3' : (Lit.int .i64 c).wf = true := h3
    have hfn' : (¬ f0.name = "_") ∧ (¬ f1.name = "_") := by simpa using hfn
    rw [keyLits_struct hu]
    simp [hfn'.1, hfn'.2, hc, e0.1, e0.2, e1.1, e1.2, hci, hc2, i2, i1 (n + 1) _ h3']
  refine ⟨.string (keyBytes [.int .i64 a, .int .i64 b, .int .i64 c]), ?_⟩
  unfold keyOf
  simp [hu, hkt, Value.formed, KV, Value.cells, hc, hL]
/-! ### the world, when a map's block is written -/
theorem put_map {W : World} {g : Nat} {cs : List (K3 × Int)} (h : W.heap[g]? = some (mapO cs)) (cs' : List (K3 × Int)) : (setBlock W g (mapO cs')).heap[g]? = some (mapO cs') := Go.ChangeMaps.heap_setBlock_same h _
theorem far_map {W : World} {g i : Nat} {cs : List (K3 × Int)} (h : W.heap[g]? = some (mapO cs)) (o : Obj) (hne : i ≠ g) : (setBlock W g o).heap[i]? = W.heap[i]? := Go.ChangeMaps.heap_setBlock_other h _ hne
theorem ne_map {W : World} {g i : Nat} {cs : List (K3 × Int)} (h : W.heap[g]? = some (mapO cs)) {t : TypeId} {cells : Array Value} {f : Nat × Nat} (hi : W.heap[i]? = some (.cells cells t f)) : i ≠ g := by
  rintro rfl
  rw [h] at hi
  unfold mapO at hi
  cases hi
theorem blk_map {W : World} {g i : Nat} {cs : List (K3 × Int)} (h : W.heap[g]? = some (mapO cs)) (o : Obj) {t : TypeId} {cells : Array Value} {f : Nat × Nat} (hi : W.heap[i]? = some (.cells cells t f)) : (setBlock W g o).heap[i]? = some (.cells cells t f) :=
  (far_map h o (ne_map h hi)).trans hi
theorem R_map {α : Type} {d : Kd α} {e base : Nat} {ok : Nat → Prop} {v : Value} {xs : List α} {W : World} {g : Nat} {cs : List (K3 × Int)} (h : W.heap[g]? = some (mapO cs)) (o : Obj) (hR : d.R e W base ok v xs) : d.R e (setBlock W g o) base ok v xs := by
  refine Kd.R_mono (Kd.R_move (Kd.R_bound hR) (fun k hk => ?_)) (fun _ hk => hk.1)
  obtain ⟨_, _, _, q, _, cells, hc⟩ := hk
  exact far_map h o (ne_map h hc)
theorem below_map {w W : World} {g : Nat} {cs : List (K3 × Int)} (h : W.heap[g]? = some (mapO cs)) (o : Obj) (hb : Below w.heap.size w W) (hg : w.heap.size ≤ g) : Below w.heap.size w (setBlock W g o) :=
  ⟨hb.os, hb.tape, hb.output, by simpa [setBlock] using hb.size, fun k hk => (far_map h o (by omega)).trans (hb.block k hk)⟩
theorem mf2_ {W : World} {g g' i j : Nat} {v v2 : Value} {o : Obj} (h : Aside0 (W.heap[g]? = some o)) (ne : Aside0 (g ≠ g')) : ((W.setCell ⟨g', i, none⟩ v).setCell ⟨g', j, none⟩ v2).heap[g]? = some o :=
  (Below.heap_setCell _ ⟨g', j, none⟩ v2 g ne.out).trans ((Below.heap_setCell W ⟨g', i, none⟩ v g ne.out).trans h.out)
/-! ### a range over it: what is still to come -/
def vE (f : Int → Int) (e : MapEntry) : Int := match e.val with
  | .int _ c => f c
  | _ => 0
def leftS (f : Int → Int) (cs : List (K3 × Int)) (seen : Array Nat) : Int := ((leftOf (esL 0 cs).toArray seen).toList.map (vE f)).sum
def sumC (f : Int → Int) (cs : List (K3 × Int)) : Int := (cs.map fun p => f p.2).sum
theorem born_lt {cs : List (K3 × Int)} {e : MapEntry} (h : e ∈ esL 0 cs) : e.born < cs.length := by
  obtain ⟨j, p, hp, rfl⟩ := esL_mem h
  have := (List.getElem?_eq_some_iff.1 hp).1
  simpa using this
theorem esL_born (cs : List (K3 × Int)) : ∀ n, (esL n cs).map (·.born) = List.range' n cs.length := by
  induction cs with
  | nil => intro n; rfl
  | cons p r ih => intro n; simp [esL, ih, List.range'_succ]
theorem born_nodup (cs : List (K3 × Int)) : ((esL 0 cs).map (·.born)).Nodup := by
  rw [esL_born]
  exact List.nodup_range'
theorem left_all (f : Int → Int) (cs : List (K3 × Int)) : leftS f cs #[] = sumC f cs := by
  unfold leftS leftOf sumC
  have h1 : ((esL 0 cs).toArray.filter fun e => !(#[] : Array Nat).contains e.born).toList = esL 0 cs := by simp
  rw [h1]
  have h2 : ∀ (l : List (K3 × Int)) n, (esL n l).map (vE f) = l.map fun p => f p.2 := by
    intro l
    induction l with
    | nil => intro n; rfl
    | cons p r ih => intro n; simp [esL, ih, vE]
  rw [h2]
/-- Nothing is to come. -/
structure LeftNone (cs : List (K3 × Int)) (seen : Array Nat) : Prop where
  out : (leftOf (esL 0 cs).toArray seen).size = 0
/-- An entry that is to come, and its element. -/
structure LeftIn (cs : List (K3 × Int)) (seen : Array Nat) (en : MapEntry) (c : Int) : Prop where
  mem : en ∈ (leftOf (esL 0 cs).toArray seen).toList
  val : en.val = .int .i64 c
  ex : ∃ p ∈ cs, p.2 = c
theorem left_size (cs : List (K3 × Int)) : (leftOf (esL 0 cs).toArray #[]).size ≤ cs.length := by
  have h1 := esL_length cs 0
  have h2 : (leftOf (esL 0 cs).toArray #[]).size ≤ (esL 0 cs).toArray.size := Array.size_filter_le ..
  exact Nat.le_trans h2 (Nat.le_of_eq (by simpa using h1))
theorem left_none (f : Int → Int) (cs : List (K3 × Int)) (seen : Array Nat) (h : (leftOf (esL 0 cs).toArray seen).size = 0) : leftS f cs seen = 0 := by
  unfold leftS
  rw [Array.eq_empty_of_size_eq_zero h]
  rfl
theorem sum_strike (v : MapEntry → Int) (e : MapEntry) : ∀ l : List MapEntry, (l.map (·.born)).Nodup → e ∈ l → (l.map v).sum = v e + ((l.filter fun x => !(x.born == e.born)).map v).sum := by
  intro l
  induction l with
  | nil => intro _ h; cases h
  | cons x r ih =>
    intro hn he
    rw [List.map_cons, List.nodup_cons] at hn
    rcases List.mem_cons.1 he with rfl | he
    · have hr : (r.filter fun x => !(x.born == e.born)) = r := by
        rw [List.filter_eq_self]
        intro y hy
        have : ¬ y.born = e.born := fun h => hn.1 (h ▸ List.mem_map.2 ⟨y, hy, rfl⟩)
        simpa using this
      simp [hr]
    · have hx : ¬ x.born = e.born := fun h => hn.1 (h ▸ List.mem_map.2 ⟨e, he, rfl⟩)
      rw [List.filter_cons, if_pos (by simpa using hx), List.map_cons, List.map_cons, List.sum_cons, List.sum_cons, ih hn.2 he]
      omega
theorem left_step (f : Int → Int) (cs : List (K3 × Int)) (seen : Array Nat) {e : MapEntry} (he : e ∈ (leftOf (esL 0 cs).toArray seen).toList) : leftS f cs seen = vE f e + leftS f cs (seen.push e.born) := by
  have h1 : (leftOf (esL 0 cs).toArray seen).toList = (esL 0 cs).filter fun x => !seen.contains x.born := by simp [leftOf]
  have h2 : (leftOf (esL 0 cs).toArray (seen.push e.born)).toList = ((esL 0 cs).filter fun x => !seen.contains x.born).filter fun x => !(x.born == e.born) := by
    rw [List.filter_filter]
    simp only [leftOf, Array.toList_filter]
    congr 1
    funext x
    rw [contains_push]
    cases seen.contains x.born <;> cases (x.born == e.born) <;> rfl
  unfold leftS
  rw [h2, h1]
  rw [h1] at he
  exact sum_strike (vE f) e _ ((born_nodup cs).sublist (List.filter_sublist.map _)) he
theorem w64_add (a b : Int) : wrap64 (wrap64 a + b) = wrap64 (a + b) := by unfold wrap64; omega
theorem w64_w64 (a : Int) : wrap64 (wrap64 a) = wrap64 a := by unfold wrap64; omega
/-! ### the operations -/
section
variable {P : Program} {ops : Array Oper} {rest : List Oper} {o : Oper} {a : Act} {Q : Exit → Act → World → Prop} {Kc : Act → World → Prop} {k t e : TypeId} {cs : List (K3 × Int)} {x : K3} {b : Nat} {W : World}
theorem look_step (hw : Region.wanted o (yielded ops a.tmps) = true) (m y : Operand) (hop : o.op = Op.lookup t m y false) (hm : a.eval m = .map (some b)) (hy : a.eval y = KV x)
    (K : KeyLaw P k) (ht : P.underlying t = some (.map k e)) (hz : ∀ u : World, (zeroValue e).run P u = .ok (.int .i64 0) u) (G : GoodC P k cs) (hx : keyK P k x) (hb : W.heap[b]? = some (mapO cs))
    (h : Kc (a.put o.dst (.int .i64 (cntC cs x))) W) : if Region.wanted o (yielded ops a.tmps) = true then Oper.wp P o a W Kc Q else Kc (a.put o.dst undef) W := by
  refine event_step hw ?_ h
  simp [execOp, hop, hm, hy, run_lookC K ht hz G hx hb, Result.andThen]
theorem entry_step (hw : Region.wanted o (yielded ops a.tmps) = true) (m y : Operand) (hop : o.op = Op.mapEntry t m y) (hm : a.eval m = .map (some b)) (hy : a.eval y = KV x)
    (K : KeyLaw P k) (ht : P.underlying t = some (.map k e)) (hz : ∀ u : World, (zeroValue e).run P u = .ok (.int .i64 0) u) (G : GoodC P k cs) (hx : keyK P k x) (hb : W.heap[b]? = some (mapO cs))
    (h : Kc (a.put o.dst (.tuple #[.int .i64 (cntC cs x), goInt (idxC cs x)])) (setBlock W b (mapO (enC cs x)))) : if Region.wanted o (yielded ops a.tmps) = true then Oper.wp P o a W Kc Q else Kc (a.put o.dst undef) W := by
  refine event_step hw ?_ h
  simp [execOp, hop, hm, hy, run_entryC K ht hz G hx hb, Result.andThen]
theorem estore_step (hw : Region.wanted o (yielded ops a.tmps) = true) (hN : o.dst = none) (m s v : Operand) (hop : o.op = Op.entryStore t m s v) (hm : a.eval m = .map (some b)) (hs : a.eval s = goInt (idxC cs x)) {c : Int} (hv : a.eval v = .int .i64 c)
    (hc : c = wrap64 (cntC cs x + 1)) (hb : W.heap[b]? = some (mapO (enC cs x))) (h : Kc a (setBlock W b (mapO (putC cs x)))) : if Region.wanted o (yielded ops a.tmps) = true then Oper.wp P o a W Kc Q else Kc (a.put none undef) W := by
  refine skip_ hw hN ?_ h
  simp [execOp, hop, hm, hs, hv, run_estore_put (P := P) (t := t) c hc hb, Result.andThen]
theorem look_exec (m y : Operand) (hop : o.op = Op.lookup t m y false) (hm : a.eval m = .map (some b)) (hy : a.eval y = KV x)
    (K : KeyLaw P k) (ht : P.underlying t = some (.map k e)) (hz : ∀ u : World, (zeroValue e).run P u = .ok (.int .i64 0) u) (G : GoodC P k cs) (hx : keyK P k x) (hb : W.heap[b]? = some (mapO cs) ∨ W.heap[b]? = some (mapO (enC cs x))) :
    (execOp a.eval o).run P W = .ok (.value (.int .i64 (cntC cs x))) W := by
  rcases hb with hb | hb
  · simp [execOp, hop, hm, hy, run_lookC K ht hz G hx hb, Result.andThen]
  · simp [execOp, hop, hm, hy, run_lookC K ht hz (G.en hx) hx hb, en_cnt, Result.andThen]
theorem make_event (hg : o.guard = none) {N : Tmp} (_hd : o.dst = some N) (hop : o.op = Op.makeMap t none) (h : ∀ g, g = W.heap.size → ∀ w1, w1.heap[g]? = some (mapO []) → Below W.heap.size W w1 → wpList P ops Q rest (a.put o.dst (.map (some g))) w1) : wpList P ops Q (o :: rest) a W := by
  refine Kd.event_run hg (v := .map (some W.heap.size)) (w1 := W.alloc (.map #[] 0)) ?_ (h _ rfl _ (blk_new W _) (below_alloc (Below.refl _ _) _))
  have hr : (Instr.makeMap t none).run P W = .ok (.map (some W.heap.size)) (W.alloc (.map #[] 0)) := rfl
  simp [execOp, hop, hr, Result.andThen]
theorem range_event (hg : o.guard = none) {N : Tmp} (_hd : o.dst = some N) (m : Operand) (hop : o.op = Op.range t m) (ht : P.underlying t = some (.map k e)) (hm : a.eval m = .map (some b)) (hb : W.heap[b]? = some (mapO cs))
    (h : ∀ r, r = W.heap.size → ∀ w1, w1.heap[r]? = some (.mapIter (some b) cs.length #[] cs.length) → Below W.heap.size W w1 → wpList P ops Q rest (a.put o.dst (.pointer (some ⟨r, 0, none⟩))) w1) : wpList P ops Q (o :: rest) a W := by
  refine Kd.event_run hg (v := .pointer (some ⟨W.heap.size, 0, none⟩)) (w1 := W.alloc (.mapIter (some b) cs.length #[] cs.length)) ?_ (h _ rfl _ (blk_new W _) (below_alloc (Below.refl _ _) _))
  simp [execOp, hop, hm, run_range_map (P := P) W t k e b _ _ ht hb, Result.andThen]
theorem next_event (hg : o.guard = none) {N : Tmp} (_hd : o.dst = some N) (it : Operand) (hop : o.op = Op.next it false) {r : Nat} {seen : Array Nat} (hit : a.eval it = .pointer (some ⟨r, 0, none⟩)) (hb : W.heap[b]? = some (mapO cs)) (hr : W.heap[r]? = some (.mapIter (some b) cs.length seen cs.length))
    (hDone : LeftNone cs seen → wpList P ops Q rest (a.put o.dst (.tuple #[.bool false])) W)
    (hMore : ∀ (en : MapEntry) (c : Int) (W' : World), LeftIn cs seen en c → Aside0 (W'.heap[r]? = some (.mapIter (some b) cs.length (seen.push en.born) cs.length)) → Aside0 (W'.heap[b]? = some (mapO cs)) →
      Aside0 (∀ w : World, Below w.heap.size w W → w.heap.size ≤ r → Below w.heap.size w W') → Aside0 ((Instr.entry (.pointer (some ⟨r, 0, none⟩))).run P W' = .ok (.tuple #[en.key, .int .i64 c]) W') → wpList P ops Q rest (a.put o.dst (.tuple #[.bool true, en.key, .int .i64 c])) W') : wpList P ops Q (o :: rest) a W := by
  have hne : r ≠ b := by
    rintro rfl
    rw [hb] at hr
    unfold mapO at hr
    cases hr
  rcases run_next_at (P := P) W o.type r b cs.length cs.length seen (esL 0 cs).toArray cs.length hr hb (fun y hy => born_lt hy) (Nat.le_refl _) with ⟨h0, hrun⟩ | ⟨en, he, w1, hal, hrun⟩
  · refine Kd.event_run hg ?_ (hDone ⟨h0⟩)
    simp [execOp, hop, hit, hrun, Result.andThen]
  · have hem : en ∈ esL 0 cs := (mem_left he).1
    obtain ⟨j, p, hp, hen⟩ := esL_mem hem
    have hval : en.val = .int .i64 p.2 := by rw [hen]
    have hr1 : w1.heap[r]? = some (.mapIter (some b) cs.length seen cs.length) := by rcases hal with rfl | rfl <;> exact hr
    have hb1 : w1.heap[b]? = some (mapO cs) := by rcases hal with rfl | rfl <;> exact hb
    have hrl : r < w1.heap.size := blk_lt hr1
    have hR : (setBlock w1 r (.mapIter (some b) cs.length (seen.push en.born) cs.length)).heap[r]? = some (.mapIter (some b) cs.length (seen.push en.born) cs.length) := by
      simp [setBlock, hrl]
    have hB : (setBlock w1 r (.mapIter (some b) cs.length (seen.push en.born) cs.length)).heap[b]? = some (mapO cs) := by
      rw [← hb1]
      simp [setBlock, hne]
    have hE := run_entry_at (P := P) _ r b cs.length seen (esL 0 cs).toArray cs.length en hR hB hem (born_nodup cs)
    rw [hval] at hE
    refine Kd.event_run hg ?_ (hMore en p.2 _ ⟨he, hval, p, List.mem_of_getElem? hp, rfl⟩ ⟨hR⟩ ⟨hB⟩ ⟨fun w hbw hwr => ?_⟩ ⟨hE⟩)
    · rw [hval] at hrun
      simp [execOp, hop, hit, hrun, Result.andThen]
    · have hbw1 : Below w.heap.size w w1 := by
        rcases hal with rfl | rfl
        · exact hbw
        · exact below_drew1 hbw
      refine ⟨hbw1.os, hbw1.tape, hbw1.output, by simpa [setBlock] using hbw1.size, fun i hi => ?_⟩
      rw [← hbw1.block i hi]
      have : ¬ r = i := by omega
      simp [setBlock, this]
end
end Go.Proofs.YtookmifpgclhlaaV
