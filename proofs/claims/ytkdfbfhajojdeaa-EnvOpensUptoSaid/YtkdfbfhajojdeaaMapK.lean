/- A map that the call itself has made, at any kind of key: what it holds at each key. Program-free; no condition but those of each theorem. -/
import Derived.Maps.Own
import Derived.Maps.OwnOps
import Derived.Below
namespace Go.Proofs.Ytkdfbfhajojdeaa.MapK
open Go Go.Maps Go.RowKit Go.ChangeMaps
set_option linter.unusedVariables false
set_option linter.unusedSimpArgs false
/-- Block b is a map of at most n entries; at the key x it holds f x. -/
def MapAt {X : Type} (P : Program) (k : TypeId) (kv : X → Value) (w : World) (b n : Nat) (f : X → Option Value) : Prop :=
  ∃ es clock, w.heap[b]? = some (.map es clock) ∧ es.size ≤ n ∧ (es.toList.map (·.key)).Nodup ∧ (∀ e ∈ es.toList, ∃ x l, e.key = kv x ∧ keyOf P k (kv x) = some l ∧ f x = some e.val) ∧ ∀ x v, f x = some v → ∃ e ∈ es.toList, e.key = kv x
section
variable {X : Type} {P : Program} {k : TypeId} {kv : X → Value} {w w1 : World} {b n : Nat} {f : X → Option Value}
theorem made (P : Program) (k : TypeId) (kv : X → Value) (w : World) : MapAt P k kv (w.alloc (.map #[] 0)) w.heap.size 0 (fun _ => none) :=
  ⟨#[], 0, (MapKept.heap_alloc w _).1, Nat.le_refl _, List.nodup_nil, fun e h => by simp at h, fun x v h => by cases h⟩
theorem MapAt.lt (h : MapAt P k kv w b n f) : b < w.heap.size := by
  obtain ⟨es, clock, hb, _⟩ := h
  exact (Array.getElem?_eq_some_iff.mp hb).1
theorem MapAt.same (h : MapAt P k kv w b n f) (he : w1.heap[b]? = w.heap[b]?) : MapAt P k kv w1 b n f := by
  obtain ⟨es, clock, hb, r⟩ := h
  exact ⟨es, clock, he.trans hb, r⟩
theorem MapAt.below (h : MapAt P k kv w b n f) (hb : Below w.heap.size w w1) : MapAt P k kv w1 b n f := h.same (hb.block b h.lt)
theorem MapAt.far (h : MapAt P k kv w b n f) {p : Addr} (hp : b ≠ p.block) (u : Value) : MapAt P k kv (w.setCell p u) b n f := h.same (Below.heap_setCell w p u b hp)
theorem MapAt.grown (h : MapAt P k kv w b n f) {row : Option Nat} (hg : w.grownBy w1 row) (hne : some b ≠ row) : MapAt P k kv w1 b n f := h.same (hg.block b h.lt hne)
theorem MapAt.block (h : MapAt P k kv w b n f) : ∃ es clock, w.heap[b]? = some (.map es clock) := by
  obtain ⟨es, clock, hb, _⟩ := h
  exact ⟨es, clock, hb⟩
theorem MapAt.ne (h : MapAt P k kv w b n f) {g : Nat} {cs : Array Value} {t : TypeId} {q : Nat × Nat} (hg : w.heap[g]? = some (.cells cs t q)) : b ≠ g := by
  rintro rfl
  obtain ⟨es, clock, hb⟩ := h.block
  rw [hb] at hg
  cases hg
/-- What is found at a key. -/
theorem MapAt.find (h : MapAt P k kv w b n f) (K : Keyed P k) (hinj : ∀ x y, kv x = kv y → x = y) (x : X) {l : Lit} (hkey : keyOf P k (kv x) = some l) :
    ∃ es clock, w.heap[b]? = some (.map es clock) ∧ es.size ≤ n ∧ ((Instr.findKey k (kv x) es.toList).run P w = .ok none w ∧ f x = none ∨ ∃ j e, (Instr.findKey k (kv x) es.toList).run P w = .ok (some (j, e.val)) w ∧ es.toList[j]? = some e ∧ e.key = kv x ∧ f x = some e.val) := by
  obtain ⟨es, clock, hb, hn, hd, h1, h2⟩ := h
  refine ⟨es, clock, hb, hn, ?_⟩
  rcases K.find w hkey es.toList (fun e he => by
    obtain ⟨y, l', e1, e2, _⟩ := h1 e he
    exact ⟨l', by rw [e1]; exact e2⟩) with ⟨r1, r2⟩ | ⟨j, e, r1, r2, r3⟩
  · refine .inl ⟨r1, ?_⟩
    cases hf : f x with
    | none => rfl
    | some v =>
      obtain ⟨e, he, ek⟩ := h2 x v hf
      exact absurd ek (r2 e he)
  · refine .inr ⟨j, e, r1, r2, r3, ?_⟩
    obtain ⟨y, l', e1, _, e3⟩ := h1 e (List.mem_of_getElem? r2)
    rw [r3] at e1
    rw [hinj x y e1]
    exact e3
/-- 'm[x]', as an equation on the run. -/
theorem MapAt.look {t e : TypeId} {z : Value} (h : MapAt P k kv w b n f) (K : Keyed P k) (hinj : ∀ x y, kv x = kv y → x = y) (ht : P.underlying t = some (.map k e)) (hz : (zeroValue e).run P w = .ok z w) (x : X) {l : Lit} (hkey : keyOf P k (kv x) = some l) :
    (Instr.lookup t (.map (some b)) (kv x) false).run P w = .ok ((f x).getD z) w := by
  obtain ⟨es, clock, hb, _, h1⟩ := h.find K hinj x hkey
  rcases h1 with ⟨r1, r2⟩ | ⟨j, e0, r1, r2, r3, r4⟩
  · simp [Instr.lookup, run_underlying ht, MapKept.run_getObj_map hb, K.check w es.isEmpty hkey, r1, hz, Result.andThen, r2]
  · simp [Instr.lookup, run_underlying ht, MapKept.run_getObj_map hb, K.check w es.isEmpty hkey, r1, Result.andThen, r4]
/-- 'm[x] = v', as an equation on the run. -/
theorem MapAt.put [DecidableEq X] {t e : TypeId} (h : MapAt P k kv w b n f) (K : Keyed P k) (hinj : ∀ x y, kv x = kv y → x = y) (ht : P.underlying t = some (.map k e)) (x : X) (v : Value) {l : Lit} (hkey : keyOf P k (kv x) = some l) :
    ∃ w', (Instr.mapUpdate t (.map (some b)) (kv x) v).run P w = .ok () w' ∧ MapAt P k kv w' b (n + 1) (fun y => if y = x then some v else f y) ∧ w.grownBy w' (some b) := by
  obtain ⟨es, clock, hb, hn, h1⟩ := h.find K hinj x hkey
  obtain ⟨es', clock', hb', _, hd, g1, g2⟩ := h
  rw [hb] at hb'
  injection hb' with hb'
  injection hb' with ee ec
  subst ee
  subst ec
  have hblt : b < w.heap.size := (Array.getElem?_eq_some_iff.mp hb).1
  have grow : ∀ o : Obj, w.grownBy (setBlock w b o) (some b) := fun o => ⟨rfl, rfl, rfl, by simp [setBlock], fun i hi hne => by
    have : b ≠ i := fun e => hne (by rw [e])
    simp [setBlock, this]⟩
  have at_ : ∀ o : Obj, (setBlock w b o).heap[b]? = some o := fun o => by simp [setBlock, hblt]
  rcases h1 with ⟨r1, r2⟩ | ⟨j, e0, r1, r2, r3, r4⟩
  · refine ⟨setBlock w b (.map (es.push ⟨kv x, v, clock⟩) (clock + 1)), ?_, ⟨_, _, at_ _, by simp; omega, ?_, ?_, ?_⟩, grow _⟩
    · simp [Instr.mapUpdate, run_underlying ht, MapKept.run_getObj_map hb, K.check w false hkey, r1, MapKept.run_setObj_map _ hb, Result.andThen, setBlock]
    · rw [Array.toList_push, List.map_append, List.map_singleton, List.nodup_append]
      refine ⟨hd, by simp, fun a ha c hc => ?_⟩
      simp only [List.mem_singleton] at hc
      subst hc
      obtain ⟨e1, he1, rfl⟩ := List.mem_map.mp ha
      obtain ⟨y, l', q1, _, q3⟩ := g1 e1 he1
      intro hh
      rw [q1] at hh
      have := hinj _ _ hh
      subst this
      rw [r2] at q3
      cases q3
    · intro e1 he1
      rw [Array.toList_push, List.mem_append, List.mem_singleton] at he1
      rcases he1 with he1 | rfl
      · obtain ⟨y, l', q1, q2, q3⟩ := g1 e1 he1
        refine ⟨y, l', q1, q2, ?_⟩
        have : y ≠ x := by
          rintro rfl
          rw [r2] at q3
          cases q3
        dsimp only
        rw [if_neg this]
        exact q3
      · exact ⟨x, l, rfl, hkey, by simp⟩
    · intro y u hu
      dsimp only at hu
      rw [Array.toList_push]
      by_cases c : y = x
      · subst c
        exact ⟨⟨kv y, v, clock⟩, by simp, rfl⟩
      · rw [if_neg c] at hu
        obtain ⟨e1, he1, q⟩ := g2 y u hu
        exact ⟨e1, by simp [he1], q⟩
  · have hj : es[j]? = some e0 := by simpa using r2
    have hjl : j < es.toList.length := (List.getElem?_eq_some_iff.1 r2).1
    have hlist : (es.modify j (fun e' => { e' with key := kv x, val := v })).toList = es.toList.set j { e0 with key := kv x, val := v } := by rw [Array.toList_modify, modify_eq_set _ _ _ _ r2]
    have hkeys : (es.toList.set j { e0 with key := kv x, val := v }).map (·.key) = es.toList.map (·.key) := by
      rw [List.map_set]
      apply List.ext_getElem?
      intro i
      rw [List.getElem?_set]
      by_cases c : j = i
      · subst c
        rw [if_pos rfl, List.getElem?_map, r2, if_pos (by simpa using hjl)]
        simp [r3]
      · rw [if_neg c]
    refine ⟨setBlock w b (.map (es.modify j (fun e' => { e' with key := kv x, val := v })) clock), ?_, ⟨_, _, at_ _, by simp; omega, ?_, ?_, ?_⟩, grow _⟩
    · simp [Instr.mapUpdate, run_underlying ht, MapKept.run_getObj_map hb, K.check w false hkey, r1, hj, r3, K.stays w hkey, MapKept.run_setObj_map _ hb, Result.andThen, setBlock]
    · rw [hlist, hkeys]
      exact hd
    · intro e1 he1
      rw [hlist] at he1
      obtain ⟨i, hi, ex⟩ := List.getElem_of_mem he1
      rw [List.getElem_set] at ex
      split at ex
      · subst ex
        exact ⟨x, l, rfl, hkey, by simp⟩
      · rename_i hne
        have hi' : i < es.toList.length := by simpa using hi
        obtain ⟨y, l', q1, q2, q3⟩ := g1 e1 (ex ▸ List.getElem_mem hi')
        refine ⟨y, l', q1, q2, ?_⟩
        have : y ≠ x := by
          rintro rfl
          have a1 : (es.toList.map (·.key))[i]? = some (kv y) := by rw [List.getElem?_map, List.getElem?_eq_getElem hi', ex, Option.map_some, q1]
          have a2 : (es.toList.map (·.key))[j]? = some (kv y) := by rw [List.getElem?_map, r2, Option.map_some, r3]
          have hi2 : i < (es.toList.map (·.key)).length := by simpa using hi'
          have hj2 : j < (es.toList.map (·.key)).length := by simpa using hjl
          have a3 := (List.getElem?_eq_some_iff.mp a1).2
          have a4 := (List.getElem?_eq_some_iff.mp a2).2
          rcases Nat.lt_trichotomy j i with c | c | c
          · exact List.pairwise_iff_getElem.mp hd j i hj2 hi2 c (a4.trans a3.symm)
          · exact hne c
          · exact List.pairwise_iff_getElem.mp hd i j hi2 hj2 c (a3.trans a4.symm)
        dsimp only
        rw [if_neg this]
        exact q3
    · intro y u hu
      dsimp only at hu
      rw [hlist]
      by_cases c : y = x
      · subst c
        exact ⟨{ e0 with key := kv y, val := v }, List.mem_iff_getElem.2 ⟨j, by simpa using hjl, by simp⟩, rfl⟩
      · rw [if_neg c] at hu
        obtain ⟨e1, he1, q⟩ := g2 y u hu
        have hk : kv y ∈ (es.toList.set j { e0 with key := kv x, val := v }).map (·.key) := by rw [hkeys]; exact List.mem_map.mpr ⟨e1, he1, q⟩
        obtain ⟨e2, he2, q2⟩ := List.mem_map.mp hk
        exact ⟨e2, he2, q2⟩
/-- 'm[x]', at the operation. -/
theorem look' {ops : Array Oper} {rest : List Oper} {o : Oper} {a : Act} {Q : Exit → Act → World → Prop} (hg : o.guard = none) (m x : Operand) (t : TypeId) (hop : o.op = Op.lookup t m x false) (e : TypeId) (K : Keyed P k) (hinj : ∀ x y, kv x = kv y → x = y) (ht : P.underlying t = some (.map k e)) {z : Value}
    (hz : (zeroValue e).run P w = .ok z w) (hm : a.eval m = .map (some b)) (h : MapAt P k kv w b n f) (i : X) (hx : a.eval x = kv i) {l : Lit} (hkey : keyOf P k (kv i) = some l) {v : Value} (hv : (f i).getD z = v)
    (hK : wpList P ops Q rest (a.put o.dst v) w) : wpList P ops Q (o :: rest) a w := by
  refine wpList_plain hg fun K' hK' => ?_
  have hrun := h.look K hinj ht hz i hkey
  rw [hv] at hrun
  unfold Oper.wp
  simp [execOp, hop, hm, hx, hrun, Result.andThen]
  exact hK' _ _ hK
/-- 'm[x] = v', at the operation. -/
theorem put' [DecidableEq X] {ops : Array Oper} {rest : List Oper} {o : Oper} {a : Act} {Q : Exit → Act → World → Prop} (hg : o.guard = none) (m x v : Operand) (t : TypeId) (hop : o.op = Op.mapUpdate t m x v) (e : TypeId) (K : Keyed P k) (hinj : ∀ x y, kv x = kv y → x = y) (ht : P.underlying t = some (.map k e))
    (hm : a.eval m = .map (some b)) (h : MapAt P k kv w b n f) (i : X) (val : Value) (hx : a.eval x = kv i) (hv : a.eval v = val) {l : Lit} (hkey : keyOf P k (kv i) = some l)
    (hK : ∀ w', MapAt P k kv w' b (n + 1) (fun y => if y = i then some val else f y) → w.grownBy w' (some b) → wpList P ops Q rest (a.put o.dst undef) w') : wpList P ops Q (o :: rest) a w := by
  refine wpList_plain hg fun K' hK' => ?_
  obtain ⟨w', hrun, h1, h2⟩ := h.put K hinj ht i val hkey
  unfold Oper.wp
  simp [execOp, hop, hm, hx, hv, hrun, Result.andThen]
  exact hK' _ _ (hK w' h1 h2)
/-- 'm[x] = v', at the operation of a region whose order is open. -/
theorem put_step [DecidableEq X] {ops : Array Oper} {Q : Exit → Act → World → Prop} {Kc : Act → World → Prop} {o : Oper} {a : Act} {m x v : Operand} {t : TypeId} (hw : Region.wanted o (yielded ops a.tmps) = true) (hN : o.dst = none) (hop : o.op = Op.mapUpdate t m x v) (e : TypeId) (K : Keyed P k) (hinj : ∀ x y, kv x = kv y → x = y) (ht : P.underlying t = some (.map k e))
    (hm : a.eval m = .map (some b)) (h : MapAt P k kv w b n f) (i : X) (val : Value) (hx : a.eval x = kv i) (hv : a.eval v = val) {l : Lit} (hkey : keyOf P k (kv i) = some l)
    (hK : ∀ w', MapAt P k kv w' b (n + 1) (fun y => if y = i then some val else f y) → w.grownBy w' (some b) → Kc a w') :
    if Region.wanted o (yielded ops a.tmps) = true then Oper.wp P o a w Kc Q else Kc (a.put none undef) w := by
  obtain ⟨w', hrun, h1, h2⟩ := h.put K hinj ht i val hkey
  rw [if_pos hw]
  have h3 : (execOp a.eval o).run P w = .ok .skip w' := by simp [execOp, hop, hm, hx, hv, hrun, Result.andThen]
  unfold Oper.wp
  rw [h3]
  show Kc (a.put o.dst undef) w'
  rw [hN]
  exact hK w' h1 h2
end
end Go.Proofs.Ytkdfbfhajojdeaa.MapK
