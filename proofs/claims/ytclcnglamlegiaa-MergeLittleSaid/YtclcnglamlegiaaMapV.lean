/- A map that the call itself has made, whose elements are any values: what it holds at each whole number. Program-free; no condition but those of each theorem. -/
import Derived.Maps.Own
import Derived.Maps.OwnOps
import Derived.Maps.Views
import Derived.Below
namespace Go.Proofs.Ytclcnglamlegiaa.MapV
open Go Go.Maps Go.RowKit
set_option linter.unusedVariables false
set_option linter.unusedSimpArgs false
/-- An element is held as it is. -/
def valR (v : Value) : Option (DataW Value × List MemPlace) := some (.held v, [])
theorem valR_inv {v : Value} {d : DataW Value} {ps : List MemPlace} (h : valR v = some (d, ps)) : d = .held v := by
  unfold valR at h
  cases h
  rfl
/-- Block b is a map of at most n entries; at the whole number i it holds f i, or nothing, and then f i is z. -/
def MapAt (P : Program) (k : TypeId) (w : World) (b n : Nat) (z : Value) (f : Int → Value) : Prop :=
  ∃ D : DataW Value, w.ownsMap P k valR b n D ∧ IsMap D ∧ ∀ i : Int, D.atKey (.int .i64 i) (.held z) = .held (f i)
section
variable {P : Program} {k : TypeId} {w w1 : World} {b n : Nat} {z : Value} {f : Int → Value}
theorem made (P : Program) (k : TypeId) (w : World) (z : Value) : MapAt P k (w.alloc (.map #[] 0)) w.heap.size 0 z (fun _ => z) :=
  ⟨.map [], World.ownsMap_made w P k valR, ⟨[], rfl⟩, fun _ => rfl⟩
theorem MapAt.lt (h : MapAt P k w b n z f) : b < w.heap.size := by
  obtain ⟨D, h1, _⟩ := h
  exact h1.lt
theorem MapAt.kept (h : MapAt P k w b n z f) {row : Option Nat} (hg : w.grownBy w1 row) (hne : some b ≠ row) : MapAt P k w1 b n z f := by
  obtain ⟨D, h1, h2, h3⟩ := h
  exact ⟨D, h1.kept hg hne, h2, h3⟩
theorem MapAt.same (h : MapAt P k w b n z f) (he : w1.heap[b]? = w.heap[b]?) : MapAt P k w1 b n z f := by
  obtain ⟨D, ⟨es, clock, hb, F, hs, hD⟩, h2, h3⟩ := h
  exact ⟨D, ⟨es, clock, he.trans hb, F, hs, hD⟩, h2, h3⟩
theorem MapAt.below (h : MapAt P k w b n z f) (hb : Below w.heap.size w w1) : MapAt P k w1 b n z f := h.same (hb.block b h.lt)
theorem MapAt.far (h : MapAt P k w b n z f) {p : Addr} (hp : b ≠ p.block) (u : Value) : MapAt P k (w.setCell p u) b n z f := h.same (Below.heap_setCell w p u b hp)
/-- 'm[i]'. -/
theorem look {ops : Array Oper} {rest : List Oper} {o : Oper} {a : Act} {Q : Exit → Act → World → Prop} (hg : o.guard = none) (m x : Operand) (t : TypeId) (hop : o.op = Op.lookup t m x false) (e : TypeId) (K : Keyed P k) (ht : P.underlying t = some (.map k e))
    (hz : (zeroValue e).run P w = .ok z w) (hm : a.eval m = .map (some b)) (h : MapAt P k w b n z f) (i : Int) (hx : a.eval x = .int .i64 i) (hkey : keyOf P k (.int .i64 i) = some (.int .i64 i))
    (hK : wpList P ops Q rest (a.put o.dst (f i)) w) : wpList P ops Q (o :: rest) a w := by
  obtain ⟨D, h1, h2, h3⟩ := h
  refine wpList_plain hg fun K' hK' => ?_
  obtain ⟨v, ps, hrun, hv⟩ := h1.lookup K ht hz (show valR z = some (.held z, []) from rfl) hkey
  have hv2 := valR_inv hv
  rw [h3 i] at hv2
  injection hv2 with hv3
  subst hv3
  unfold Oper.wp
  simp [execOp, hop, hm, hx, hrun, Result.andThen]
  exact hK' _ _ hK
/-- 'm[i] = v'. -/
theorem put {ops : Array Oper} {rest : List Oper} {o : Oper} {a : Act} {Q : Exit → Act → World → Prop} (hg : o.guard = none) (m x v : Operand) (t : TypeId) (hop : o.op = Op.mapUpdate t m x v) (e : TypeId) (K : Keyed P k) (ht : P.underlying t = some (.map k e))
    (hm : a.eval m = .map (some b)) (h : MapAt P k w b n z f) (hn : n < maxLen) (i : Int) (val : Value) (hx : a.eval x = .int .i64 i) (hv : a.eval v = val) (hkey : keyOf P k (.int .i64 i) = some (.int .i64 i)) (hlit : WideAt.IsKeyLit (.int .i64 i))
    (hK : ∀ w', MapAt P k w' b (n + 1) z (fun j => if j = i then val else f j) → w.grownBy w' (some b) → wpList P ops Q rest (a.put o.dst undef) w') : wpList P ops Q (o :: rest) a w := by
  obtain ⟨D, h1, h2, h3⟩ := h
  refine wpList_mapUpdate_own w hg m x v t hop k e K ht valR b n D hm h1 hn (.int .i64 i) val (.int .i64 i) hx hv hkey (.held val) [] rfl (fun w' h4 hg4 => hK w' ⟨D.put (.int .i64 i) (.held val), h4, h2.put _ _, fun j => ?_⟩ hg4)
  show (D.put (.int .i64 i) (.held val)).atKey (.int .i64 j) (.held z) = .held (if j = i then val else f j)
  by_cases c : j = i
  · subst c
    rw [if_pos rfl]
    exact atKey_put_same h2 hlit _ _
  · rw [if_neg c, atKey_put_other (fun e => c (by injection e)) _ _]
    exact h3 j
/-- 'm[i]', as an equation on the operation's run. -/
theorem look_run {o : Oper} {a : Act} {m x : Operand} {t : TypeId} (hop : o.op = Op.lookup t m x false) (e : TypeId) (K : Keyed P k) (ht : P.underlying t = some (.map k e))
    (hz : (zeroValue e).run P w = .ok z w) (hm : a.eval m = .map (some b)) (h : MapAt P k w b n z f) (i : Int) (hx : a.eval x = .int .i64 i) (hkey : keyOf P k (.int .i64 i) = some (.int .i64 i)) {v : Value} (hv : f i = v) :
    (execOp a.eval o).run P w = .ok (.value v) w := by
  obtain ⟨D, h1, h2, h3⟩ := h
  obtain ⟨v', ps, hrun, hv'⟩ := h1.lookup K ht hz (show valR z = some (.held z, []) from rfl) hkey
  have hv2 := valR_inv hv'
  rw [h3 i] at hv2
  injection hv2 with hv3
  subst hv3
  simp [execOp, hop, hm, hx, hrun, Result.andThen, hv]
/-- 'm[i] = v', as an equation on the operation's run. -/
theorem put_run {o : Oper} {a : Act} {m x v : Operand} {t : TypeId} (hop : o.op = Op.mapUpdate t m x v) (e : TypeId) (K : Keyed P k) (ht : P.underlying t = some (.map k e))
    (hm : a.eval m = .map (some b)) (h : MapAt P k w b n z f) (hn : n < maxLen) (i : Int) (val : Value) (hx : a.eval x = .int .i64 i) (hv : a.eval v = val) (hkey : keyOf P k (.int .i64 i) = some (.int .i64 i)) (hlit : WideAt.IsKeyLit (.int .i64 i)) :
    ∃ w', (execOp a.eval o).run P w = .ok .skip w' ∧ MapAt P k w' b (n + 1) z (fun j => if j = i then val else f j) ∧ w.grownBy w' (some b) := by
  obtain ⟨D, h1, h2, h3⟩ := h
  obtain ⟨w', hrun, r1, r2⟩ := h1.update K ht hn hkey (show valR val = some (.held val, []) from rfl)
  refine ⟨w', ?_, ⟨D.put (.int .i64 i) (.held val), r1, h2.put _ _, fun j => ?_⟩, r2⟩
  · simp [execOp, hop, hm, hx, hv, hrun, Result.andThen]
  · show (D.put (.int .i64 i) (.held val)).atKey (.int .i64 j) (.held z) = .held (if j = i then val else f j)
    by_cases c : j = i
    · subst c
      rw [if_pos rfl]
      exact atKey_put_same h2 hlit _ _
    · rw [if_neg c, atKey_put_other (fun e => c (by injection e)) _ _]
      exact h3 j
/-- 'm[i] = v', at the operation of a region whose order is open. -/
theorem put_step {ops : Array Oper} {Q : Exit → Act → World → Prop} {Kc : Act → World → Prop} {o : Oper} {a : Act} {m x v : Operand} {t : TypeId} (hw : Region.wanted o (yielded ops a.tmps) = true) (hN : o.dst = none) (hop : o.op = Op.mapUpdate t m x v) (e : TypeId) (K : Keyed P k) (ht : P.underlying t = some (.map k e))
    (hm : a.eval m = .map (some b)) (h : MapAt P k w b n z f) (hn : n < maxLen) (i : Int) (val : Value) (hx : a.eval x = .int .i64 i) (hv : a.eval v = val) (hkey : keyOf P k (.int .i64 i) = some (.int .i64 i)) (hlit : WideAt.IsKeyLit (.int .i64 i))
    (hK : ∀ w', MapAt P k w' b (n + 1) z (fun j => if j = i then val else f j) → w.grownBy w' (some b) → Kc a w') :
    if Region.wanted o (yielded ops a.tmps) = true then Oper.wp P o a w Kc Q else Kc (a.put none undef) w := by
  obtain ⟨w', hrun, h1, h2⟩ := put_run hop e K ht hm h hn i val hx hv hkey hlit
  rw [if_pos hw]
  unfold Oper.wp
  rw [hrun]
  show Kc (a.put o.dst undef) w'
  rw [hN]
  exact hK w' h1 h2
/-- 'm[i]', its value told in another form. -/
theorem look' {ops : Array Oper} {rest : List Oper} {o : Oper} {a : Act} {Q : Exit → Act → World → Prop} (hg : o.guard = none) (m x : Operand) (t : TypeId) (hop : o.op = Op.lookup t m x false) (e : TypeId) (K : Keyed P k) (ht : P.underlying t = some (.map k e))
    (hz : (zeroValue e).run P w = .ok z w) (hm : a.eval m = .map (some b)) (h : MapAt P k w b n z f) (i : Int) (hx : a.eval x = .int .i64 i) (hkey : keyOf P k (.int .i64 i) = some (.int .i64 i)) {v : Value} (hv : f i = v)
    (hK : wpList P ops Q rest (a.put o.dst v) w) : wpList P ops Q (o :: rest) a w := look hg m x t hop e K ht hz hm h i hx hkey (hv ▸ hK)
/-- The block is a map's. -/
theorem MapAt.block (h : MapAt P k w b n z f) : ∃ es clock, w.heap[b]? = some (.map es clock) := by
  obtain ⟨D, ⟨es, clock, hb, _⟩, _⟩ := h
  exact ⟨es, clock, hb⟩
theorem MapAt.ne (h : MapAt P k w b n z f) {g : Nat} {cs : Array Value} {t : TypeId} {q : Nat × Nat} (hg : w.heap[g]? = some (.cells cs t q)) : b ≠ g := by
  rintro rfl
  obtain ⟨es, clock, hb⟩ := h.block
  rw [hb] at hg
  cases hg
end
end Go.Proofs.Ytclcnglamlegiaa.MapV
