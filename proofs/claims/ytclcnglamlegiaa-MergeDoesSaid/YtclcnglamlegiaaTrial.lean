/- Several texts of this session's, one behind the other: what each proves stands ahead of it. -/
import Derived.Test.YtclcnglamlegiaaPMDx0
import Derived.Maps.Own
import Derived.Maps.OwnOps
import Derived.Maps.Views
import Derived.Below
import Derived.Test.YtclcnglamlegiaaWMore
import Derived.Test.YtclcnglamlegiaaPMDx7
import Derived.Test.YtclcnglamlegiaaPMDx9s
import Derived.Test.YtclcnglamlegiaaPMDx8
namespace Go.Proofs.Ytclcnglamlegiaa.VAway
open Go Go.RowKit Go.Proofs.YtclcnglamlegiaaW.PrintWords Go.Proofs.YtclcnglamlegiaaW.PrintLast Go.Proofs.YtclcnglamlegiaaW.PrintMore Go.Proofs.Ytclcnglamlegiaa.PMD
theorem away36 {W : World} {e base n c g : Nat} {ok : Nat → Prop} {ad : Addr} {xs : List S36} (h : Kd.V k36 e W base ok (.slice (some ad) n c) xs) (i : Int) (h0 : 0 ≤ i) (h1 : i < (xs.length : Int)) (hok : ∀ k, ok k → k ≠ g) : ad.block ≠ g := by
 obtain ⟨A, c', he, _, hF⟩ := h
 injection he with e1 e2 e3
 subst e1
 rintro rfl
 have h2 := hF { W with heap := W.heap.setIfInBounds ad.block (.map #[] 0) } (fun k hk _ => by
  show (W.heap.setIfInBounds ad.block _)[k]? = _
  rw [Array.getElem?_setIfInBounds]
  rw [if_neg (Ne.symm (hok k hk))])
 obtain ⟨ad', e4, h3, _⟩ := at_T36 h2 i h0 h1
 obtain rfl := Option.some.inj e4
 have hb : ad.block < W.heap.size := by
  have := World.block_lt_of_cell? _ _ h3
  rw [add_block] at this
  simpa using this
 have h4 : (W.heap.setIfInBounds ad.block (.map #[] 0))[ad.block]? = some (.map #[] 0) := by
  rw [Array.getElem?_setIfInBounds]
  simp [hb]
 unfold World.cell? at h3
 simp only [add_block] at h3
 rw [h4] at h3
 simp at h3
end Go.Proofs.Ytclcnglamlegiaa.VAway
namespace Go.Proofs.Ytclcnglamlegiaa.MapV
open Go Go.Maps Go.RowKit
set_option linter.unusedVariables false
set_option linter.unusedSimpArgs false
def valR (v : Value) : Option (DataW Value × List MemPlace) := some (.held v, [])
theorem valR_inv {v : Value} {d : DataW Value} {ps : List MemPlace} (h : valR v = some (d, ps)) : d = .held v := by
 unfold valR at h
 cases h
 rfl
def MapAt (P : Program) (k : TypeId) (w : World) (b n : Nat) (z : Value) (f : Int → Value) : Prop :=
 ∃ D : DataW Value, w.ownsMap P k valR b n D ∧ IsMap D ∧ ∀ i : Int, D.atKey (.int .i64 i) (.held z) = .held (f i)
section
variable {P : Program} {k : TypeId} {w w1 : World} {b n : Nat} {z : Value} {f : Int → Value}
theorem made (P : Program) (k : TypeId) (w : World) (z : Value) : MapAt P k (w.alloc (.map #[] 0)) w.heap.size 0 z (fun _ => z) :=
 ⟨.map [], World.ownsMap_made w P k valR, ⟨[], rfl⟩, fun _ => rfl⟩
theorem MapAt.lt (h : MapAt P k w b n z f) : b < w.heap.size := by
 obtain ⟨D, h1, _⟩ := h
 exact h1.lt
theorem MapAt.kept (h : MapAt P k w b n z f) {row : Option Nat} (hg : w.grownBy w1 row) (hne : some b ≠ row) : MapAt P k w1 b n z f := by
 obtain ⟨D, h1, h2, h3⟩ := h
 exact ⟨D, h1.kept hg hne, h2, h3⟩
theorem MapAt.same (h : MapAt P k w b n z f) (he : w1.heap[b]? = w.heap[b]?) : MapAt P k w1 b n z f := by
 obtain ⟨D, ⟨es, clock, hb, F, hs, hD⟩, h2, h3⟩ := h
 exact ⟨D, ⟨es, clock, he.trans hb, F, hs, hD⟩, h2, h3⟩
theorem MapAt.below (h : MapAt P k w b n z f) (hb : Below w.heap.size w w1) : MapAt P k w1 b n z f := h.same (hb.block b h.lt)
theorem MapAt.far (h : MapAt P k w b n z f) {p : Addr} (hp : b ≠ p.block) (u : Value) : MapAt P k (w.setCell p u) b n z f := h.same (Below.heap_setCell w p u b hp)
theorem look {ops : Array Oper} {rest : List Oper} {o : Oper} {a : Act} {Q : Exit → Act → World → Prop} (hg : o.guard = none) (m x : Operand) (t : TypeId) (hop : o.op = Op.lookup t m x false) (e : TypeId) (K : Keyed P k) (ht : P.underlying t = some (.map k e))
  (hz : (zeroValue e).run P w = .ok z w) (hm : a.eval m = .map (some b)) (h : MapAt P k w b n z f) (i : Int) (hx : a.eval x = .int .i64 i) (hkey : keyOf P k (.int .i64 i) = some (.int .i64 i))
  (hK : wpList P ops Q rest (a.put o.dst (f i)) w) : wpList P ops Q (o :: rest) a w := by
 obtain ⟨D, h1, h2, h3⟩ := h
 refine wpList_plain hg fun K' hK' => ?_
 obtain ⟨v, ps, hrun, hv⟩ := h1.lookup K ht hz (show valR z = some (.held z, []) from rfl) hkey
 have hv2 := valR_inv hv
 rw [h3 i] at hv2
 injection hv2 with hv3
 subst hv3
 unfold Oper.wp
 simp [execOp, hop, hm, hx, hrun, Result.andThen]
 exact hK' _ _ hK
theorem put {ops : Array Oper} {rest : List Oper} {o : Oper} {a : Act} {Q : Exit → Act → World → Prop} (hg : o.guard = none) (m x v : Operand) (t : TypeId) (hop : o.op = Op.mapUpdate t m x v) (e : TypeId) (K : Keyed P k) (ht : P.underlying t = some (.map k e))
  (hm : a.eval m = .map (some b)) (h : MapAt P k w b n z f) (hn : n < maxLen) (i : Int) (val : Value) (hx : a.eval x = .int .i64 i) (hv : a.eval v = val) (hkey : keyOf P k (.int .i64 i) = some (.int .i64 i)) (hlit : WideAt.IsKeyLit (.int .i64 i))
  (hK : ∀ w', MapAt P k w' b (n + 1) z (fun j => if j = i then val else f j) → w.grownBy w' (some b) → wpList P ops Q rest (a.put o.dst undef) w') : wpList P ops Q (o :: rest) a w := by
 obtain ⟨D, h1, h2, h3⟩ := h
 refine wpList_mapUpdate_own w hg m x v t hop k e K ht valR b n D hm h1 hn (.int .i64 i) val (.int .i64 i) hx hv hkey (.held val) [] rfl (fun w' h4 hg4 => hK w' ⟨D.put (.int .i64 i) (.held val), h4, h2.put _ _, fun j => ?_⟩ hg4)
 show (D.put (.int .i64 i) (.held val)).atKey (.int .i64 j) (.held z) = .held (if j = i then val else f j)
 by_cases c : j = i
 ·subst c
  rw [if_pos rfl]
  exact atKey_put_same h2 hlit _ _
 ·rw [if_neg c, atKey_put_other (fun e => c (by injection e)) _ _]
  exact h3 j
theorem look_run {o : Oper} {a : Act} {m x : Operand} {t : TypeId} (hop : o.op = Op.lookup t m x false) (e : TypeId) (K : Keyed P k) (ht : P.underlying t = some (.map k e))
  (hz : (zeroValue e).run P w = .ok z w) (hm : a.eval m = .map (some b)) (h : MapAt P k w b n z f) (i : Int) (hx : a.eval x = .int .i64 i) (hkey : keyOf P k (.int .i64 i) = some (.int .i64 i)) {v : Value} (hv : f i = v) :
  (execOp a.eval o).run P w = .ok (.value v) w := by
 obtain ⟨D, h1, h2, h3⟩ := h
 obtain ⟨v', ps, hrun, hv'⟩ := h1.lookup K ht hz (show valR z = some (.held z, []) from rfl) hkey
 have hv2 := valR_inv hv'
 rw [h3 i] at hv2
 injection hv2 with hv3
 subst hv3
 simp [execOp, hop, hm, hx, hrun, Result.andThen, hv]
theorem put_run {o : Oper} {a : Act} {m x v : Operand} {t : TypeId} (hop : o.op = Op.mapUpdate t m x v) (e : TypeId) (K : Keyed P k) (ht : P.underlying t = some (.map k e))
  (hm : a.eval m = .map (some b)) (h : MapAt P k w b n z f) (hn : n < maxLen) (i : Int) (val : Value) (hx : a.eval x = .int .i64 i) (hv : a.eval v = val) (hkey : keyOf P k (.int .i64 i) = some (.int .i64 i)) (hlit : WideAt.IsKeyLit (.int .i64 i)) :
  ∃ w', (execOp a.eval o).run P w = .ok .skip w' ∧ MapAt P k w' b (n + 1) z (fun j => if j = i then val else f j) ∧ w.grownBy w' (some b) := by
 obtain ⟨D, h1, h2, h3⟩ := h
 obtain ⟨w', hrun, r1, r2⟩ := h1.update K ht hn hkey (show valR val = some (.held val, []) from rfl)
 refine ⟨w', ?_, ⟨D.put (.int .i64 i) (.held val), r1, h2.put _ _, fun j => ?_⟩, r2⟩
 ·simp [execOp, hop, hm, hx, hv, hrun, Result.andThen]
 ·show (D.put (.int .i64 i) (.held val)).atKey (.int .i64 j) (.held z) = .held (if j = i then val else f j)
  by_cases c : j = i
  ·subst c
   rw [if_pos rfl]
   exact atKey_put_same h2 hlit _ _
  ·rw [if_neg c, atKey_put_other (fun e => c (by injection e)) _ _]
   exact h3 j
theorem put_step {ops : Array Oper} {Q : Exit → Act → World → Prop} {Kc : Act → World → Prop} {o : Oper} {a : Act} {m x v : Operand} {t : TypeId} (hw : Region.wanted o (yielded ops a.tmps) = true) (hN : o.dst = none) (hop : o.op = Op.mapUpdate t m x v) (e : TypeId) (K : Keyed P k) (ht : P.underlying t = some (.map k e))
  (hm : a.eval m = .map (some b)) (h : MapAt P k w b n z f) (hn : n < maxLen) (i : Int) (val : Value) (hx : a.eval x = .int .i64 i) (hv : a.eval v = val) (hkey : keyOf P k (.int .i64 i) = some (.int .i64 i)) (hlit : WideAt.IsKeyLit (.int .i64 i))
  (hK : ∀ w', MapAt P k w' b (n + 1) z (fun j => if j = i then val else f j) → w.grownBy w' (some b) → Kc a w') :
  if Region.wanted o (yielded ops a.tmps) = true then Oper.wp P o a w Kc Q else Kc (a.put none undef) w := by
 obtain ⟨w', hrun, h1, h2⟩ := put_run hop e K ht hm h hn i val hx hv hkey hlit
 rw [if_pos hw]
 unfold Oper.wp
 rw [hrun]
 show Kc (a.put o.dst undef) w'
 rw [hN]
 exact hK w' h1 h2
theorem look' {ops : Array Oper} {rest : List Oper} {o : Oper} {a : Act} {Q : Exit → Act → World → Prop} (hg : o.guard = none) (m x : Operand) (t : TypeId) (hop : o.op = Op.lookup t m x false) (e : TypeId) (K : Keyed P k) (ht : P.underlying t = some (.map k e))
  (hz : (zeroValue e).run P w = .ok z w) (hm : a.eval m = .map (some b)) (h : MapAt P k w b n z f) (i : Int) (hx : a.eval x = .int .i64 i) (hkey : keyOf P k (.int .i64 i) = some (.int .i64 i)) {v : Value} (hv : f i = v)
  (hK : wpList P ops Q rest (a.put o.dst v) w) : wpList P ops Q (o :: rest) a w := look hg m x t hop e K ht hz hm h i hx hkey (hv ▸ hK)
theorem MapAt.block (h : MapAt P k w b n z f) : ∃ es clock, w.heap[b]? = some (.map es clock) := by
 obtain ⟨D, ⟨es, clock, hb, _⟩, _⟩ := h
 exact ⟨es, clock, hb⟩
theorem MapAt.ne (h : MapAt P k w b n z f) {g : Nat} {cs : Array Value} {t : TypeId} {q : Nat × Nat} (hg : w.heap[g]? = some (.cells cs t q)) : b ≠ g := by
 rintro rfl
 obtain ⟨es, clock, hb⟩ := h.block
 rw [hb] at hg
 cases hg
end
end Go.Proofs.Ytclcnglamlegiaa.MapV
namespace Go.Proofs.Ytclcnglamlegiaa.Trial
open Go Go.RowKit Go.Proofs.YtclcnglamlegiaaW.PrintWords Go.Proofs.YtclcnglamlegiaaW.PrintLast Go.Proofs.YtclcnglamlegiaaW.PrintMore Go.Proofs.Ytclcnglamlegiaa.PMD Go.Proofs.Ytclcnglamlegiaa.MapV
set_option linter.unusedVariables false
set_option linter.unusedSimpArgs false
def eof (x : S34) : S58 := ⟨x.f1, x.f2, x.f3⟩
def ofl (i : Int) (L : List S34) : List S58 := (L.filter fun x => x.f0 == i).map eof
theorem ofl_same (L : List S34) (x : S34) : ofl x.f0 (L ++ [x]) = ofl x.f0 L ++ [eof x] := by
 simp [ofl, List.filter_append]
theorem ofl_other {i : Int} (L : List S34) (x : S34) (h : i ≠ x.f0) : ofl i (L ++ [x]) = ofl i L := by
 have : (x.f0 == i) = false := beq_eq_false_iff_ne.mpr (Ne.symm h)
 simp [ofl, List.filter_append, this]
theorem ofl_len (i : Int) (L : List S34) : (ofl i L).length ≤ L.length := by
 unfold ofl
 rw [List.length_map]
 exact List.length_filter_le _ _
structure MS (w0 w : World) (b n : Nat) (f : Int → Value) (L : List S34) : Prop where
 m : MapAt Try.prog 3 w b n (.slice none 0 0) f
 rows : ∀ i : Int, Kd.R k58 58 w w0.heap.size (fun _ => True) (f i) (ofl i L)
 ap : ∀ i j : Int, i ≠ j → (f i).ownBlock = none ∨ (f i).ownBlock ≠ (f j).ownBlock
 lm : w0.heap.size ≤ b
theorem kE : k58.E = [] := rfl
namespace MS
variable {w0 w w1 w2 : World} {b n : Nat} {f : Int → Value} {L : List S34}
theorem made (w0 w : World) (h : w0.heap.size ≤ w.heap.size) : MS w0 (w.alloc (.map #[] 0)) w.heap.size 0 (fun _ => .slice none 0 0) [] :=
 ⟨MapV.made _ _ _ _, fun i => Kd.R_nil _ _ _ _ _, fun i j _ => .inl rfl, h⟩
theorem below (h : MS w0 w b n f L) (hb : Below w.heap.size w w1) : MS w0 w1 b n f L :=
 ⟨h.m.below hb, fun i => Kd.R_below (h.rows i) hb, h.ap, h.lm⟩
theorem far (h : MS w0 w b n f L) {g : Nat} {cs : Array Value} {t : TypeId} (hg : w.heap[g]? = some (.cells cs t (0, 0))) (ht : 58 ≠ t) (o : Nat) (v : Value) : MS w0 (w.setCell ⟨g, o, none⟩ v) b n f L :=
 ⟨h.m.far (p := ⟨g, o, none⟩) (h.m.ne hg) v, fun i => Kd.R_mono (Kd.R_far (p := ⟨g, o, none⟩) (Kd.R_types (h.rows i) hg (fun q hq => by
  rw [kE] at hq
  rw [List.mem_singleton] at hq
  exact hq ▸ ht)) (fun _ hk => hk.2) v) (fun _ hk => hk.1), h.ap, h.lm⟩
theorem own (h : MS w0 w b n f L) (i : Int) {g : Nat} {cs : Array Value} {t : TypeId} (hg : w.heap[g]? = some (.cells cs t (0, 0))) (ht : t ≠ 58) : some g ≠ (f i).ownBlock := fun e_ =>
 ((Kd.R_typed (h.rows i)) _ e_.symm).elim fun _ hc => blk_ne hg hc ht rfl
theorem mown (h : MS w0 w b n f L) (i : Int) : some b ≠ (f i).ownBlock := fun e_ =>
 ((Kd.R_typed (h.rows i)) _ e_.symm).elim fun _ hc => h.m.ne hc rfl
theorem app (h : MS w0 w b n f L) (x : S34) {v2 : Value} (ho : Kd.R k58 58 w1 w0.heap.size (fun _ => True) v2 (ofl x.f0 L ++ [eof x])) (hg : w.grownBy w1 (f x.f0).ownBlock)
  (hat : v2.ownBlock = (f x.f0).ownBlock ∨ ∃ g, v2.ownBlock = some g ∧ w.heap.size ≤ g) :
  MapAt Try.prog 3 w1 b n (.slice none 0 0) f ∧ ∀ w2 : World, MapAt Try.prog 3 w2 b (n + 1) (.slice none 0 0) (fun j => if j = x.f0 then v2 else f j) → w1.grownBy w2 (some b) → MS w0 w2 b (n + 1) (fun j => if j = x.f0 then v2 else f j) (L ++ [x]) := by
 have m1 := h.m.kept hg (h.mown x.f0)
 refine ⟨m1, fun w2 m2 hg2 => ⟨m2, fun i => ?_, fun i j hij => ?_, h.lm⟩⟩
 ·by_cases c : i = x.f0
  ·subst c
   simp only [if_pos, ofl_same]
   exact Kd.R_grown2 ho kE hg2 (fun k hk e_ => by
    cases hk
    exact ((Kd.R_typed ho) _ e_.symm).elim fun _ hc => m1.ne hc rfl)
  ·simp only [if_neg c, ofl_other L x c]
   have hr1 := Kd.R_grown2 (h.rows i) kE hg (fun k hk e_ => by
    rcases h.ap i x.f0 c with h1 | h1
    ·rw [h1] at e_
     cases e_
    ·exact h1 (e_.symm.trans hk.symm))
   exact Kd.R_grown2 hr1 kE hg2 (fun k hk e_ => by
    cases hk
    exact ((Kd.R_typed hr1) _ e_.symm).elim fun _ hc => m1.ne hc rfl)
 ·by_cases ci : i = x.f0
  ·have cj : j ≠ x.f0 := fun e => hij (ci.trans e.symm)
   simp only [if_pos ci, if_neg cj]
   rcases hat with h1 | ⟨g, h1, h2⟩
   ·rw [h1]
    exact h.ap x.f0 j (Ne.symm cj)
   ·refine .inr fun e => ?_
    rw [h1] at e
    have := Kd.R_lt (h.rows j) g e.symm
    omega
  ·by_cases cj : j = x.f0
   ·simp only [if_neg ci, if_pos cj]
    rcases hat with h1 | ⟨g, h1, h2⟩
    ·rw [h1]
     exact h.ap i x.f0 ci
    ·refine .inr fun e => ?_
     rw [h1] at e
     have := Kd.R_lt (h.rows i) g e
     omega
   ·simp only [if_neg ci, if_neg cj]
    exact h.ap i j hij
theorem set3 (h : MS w0 w b n f L) {g : Nat} {c0 c1 c2 : Value} (hg : w.heap[g]? = some (.cells #[c0, c1, c2] 30 (0, 0))) (x y z : Value) : MS w0 (((w.setCell ⟨g, 0, none⟩ x).setCell ⟨g, 1, none⟩ y).setCell ⟨g, 2, none⟩ z) b n f L :=
 ((h.far hg (by decide) 0 x).far (blk_put hg 0 x rfl) (by decide) 1 y).far (blk_put (blk_put hg 0 x rfl) 1 y rfl) (by decide) 2 z
end MS
theorem take_next (l : List S34) (x : Int) (h0 : 0 ≤ x) (h1 : x < (l.length : Int)) : l.take (x + 1).toNat = l.take x.toNat ++ [rd_T34 l x] := by
 have e : (x + 1).toNat = x.toNat + 1 := by omega
 have hx : x.toNat < l.length := by omega
 rw [e, List.take_succ_eq_append_getElem hx]
 congr 1
 simp [rd_T34, hx, h0]
theorem rd_mem (l : List S34) (x : Int) (h0 : 0 ≤ x) (h1 : x < (l.length : Int)) : rd_T34 l x ∈ l := by
 have hx : x.toNat < l.length := by omega
 simp [rd_T34, hx]
theorem wid {x : Int} (h0 : -9223372036854775808 ≤ x) (h1 : x ≤ 9223372036854775807) : wrap64 x = x := by
 unfold wrap64
 omega
theorem kint {i : Int} (h0 : 0 ≤ i) (h1 : i < 2000000) : keyOf Try.prog 3 (.int .i64 i) = some (.int .i64 i) :=
 Maps.keyOf_int_mk Try.underlying3 (by
  have h2 : IntKind.i64.min ≤ i := Int.le_trans (by decide) h0
  have h3 : i ≤ 9223372036854775807 := by omega
  simp [Lit.wf, h2, h3])
theorem kd : Maps.Keyed Try.prog 3 := Maps.int_keyed Try.underlying3
theorem zr (w : World) : (zeroValue 65).run Try.prog w = .ok (.slice none 0 0) w := by
 have h : Try.t65.zero = some (.slice none 0 0) := by kernel_rfl
 simp [zeroValue, Try.underlying65, h]
end Go.Proofs.Ytclcnglamlegiaa.Trial
namespace Go.Proofs.Ytclcnglamlegiaa.Trial
open Go Go.RowKit Go.Proofs.YtclcnglamlegiaaW.PrintWords Go.Proofs.YtclcnglamlegiaaW.PrintLast Go.Proofs.YtclcnglamlegiaaW.PrintMore Go.Proofs.Ytclcnglamlegiaa.PMD Go.Proofs.Ytclcnglamlegiaa.MapV
attribute [local go_sem] max2_int min2_int max_two min_two max_three min_three max_four min_four   -- for this text's walks alone
set_option linter.unusedVariables false
set_option linter.unusedSimpArgs false
/-! ### trial_edits: function 38 -/
mutual
def trial_edits.l0 : Nat → List (S36) → List (S34) → List (S34) → List (S34) → Int → Int → Option (Int × Int × Int × Int)
 | 0, _, _, _, _, _, _ => none
 | k + 1, x0, x1, x6, x15, x16, x17 => if x17 < x16 then (if 0 ≤ x17 then (if x17 < (x15.length : Int) then (if ((rd_T34 x15 x17).f0) < 0 then (some (0, 2, (rd_T34 x15 x17).f0, (rd_T34 x15 x17).f1)) else (if ((rd_T34 x15 x17).f0) ≥ (x0.length : Int) then (some (0, 2, (rd_T34 x15 x17).f0, (rd_T34 x15 x17).f1)) else (trial_edits.l0 k x0 x1 x6 x15 x16 (wrap64 (x17 + 1))))) else (none)) else (none)) else (if (∀ x ∈ x1, 0 ≤ x.f0 ∧ x.f0 < (x0.length : Int)) then (trial_edits.l1 k x0 x1 x6 x1 (x1.length : Int) 0) else (none))
def trial_edits.l1 : Nat → List (S36) → List (S34) → List (S34) → List (S34) → Int → Int → Option (Int × Int × Int × Int)
 | 0, _, _, _, _, _, _ => none
 | k + 1, x0, x1, x6, x37, x38, x39 => if x39 < x38 then (if 0 ≤ x39 then (if x39 < (x37.length : Int) then (if x39 > 0 then (if 0 ≤ (wrap64 (x39 - 1)) then (if (wrap64 (x39 - 1)) < (x1.length : Int) then (if ((rd_T34 x37 x39).f0) < ((rd_T34 x1 (wrap64 (x39 - 1))).f0) then (some (0, 3, (rd_T34 x37 x39).f0, (rd_T34 x37 x39).f1)) else (if ([] : List (S58)).length < 4398046511104 then (trial_edits.l1 k x0 x1 x6 x37 x38 (wrap64 (x39 + 1))) else (none))) else (none)) else (none)) else (if ([] : List (S58)).length < 4398046511104 then (trial_edits.l1 k x0 x1 x6 x37 x38 (wrap64 (x39 + 1))) else (none))) else (none)) else (none)) else (trial_edits.l2 k x6 x0 (x0.length : Int) 0)
def trial_edits.l2 : Nat → List (S34) → List (S36) → Int → Int → Option (Int × Int × Int × Int)
 | 0, _, _, _, _ => none
 | k + 1, x6, x79, x80, x81 => if x81 < x80 then (if 0 ≤ x81 then (if x81 < (x79.length : Int) then ((edit_Check.f k (((rd_T36 x79 x81).f1).size : Int) (ofl x81 x6)).bind fun t128 => (if t128 = 0 then (trial_edits.l2 k x6 x79 x80 (wrap64 (x81 + 1))) else (some (0, t128, x81, 0)))) else (none)) else (none)) else (some (0, 0, 0, 0))
end
def trial_edits.f (k : Nat) (l0 : List (S36)) (l1 : List (S34)) : Option (Int × Int × Int × Int) := trial_edits.l0 k l0 l1 l1 l1 (l1.length : Int) 0
theorem trial_edits.mono_l : ∀ k, (∀ y0 y1 y2 y3 y4 y5, LeO (trial_edits.l0 k y0 y1 y2 y3 y4 y5) (trial_edits.l0 (k + 1) y0 y1 y2 y3 y4 y5)) ∧ (∀ y0 y1 y2 y3 y4 y5, LeO (trial_edits.l1 k y0 y1 y2 y3 y4 y5) (trial_edits.l1 (k + 1) y0 y1 y2 y3 y4 y5)) ∧ (∀ y0 y1 y2 y3, LeO (trial_edits.l2 k y0 y1 y2 y3) (trial_edits.l2 (k + 1) y0 y1 y2 y3))
 | 0 => ⟨fun _ _ _ _ _ _ r h => by simp [trial_edits.l0] at h, fun _ _ _ _ _ _ r h => by simp [trial_edits.l1] at h, fun _ _ _ _ r h => by simp [trial_edits.l2] at h⟩
 | k + 1 => by
  obtain ⟨ih0, ih1, ih2⟩ := trial_edits.mono_l k
  refine ⟨?_, ?_, ?_⟩
  ·intro y0 y1 y2 y3 y4 y5
   unfold trial_edits.l0
   repeat' first
   | (with_reducible exact ih0 _ _ _ _ _ _)
   | (with_reducible exact ih1 _ _ _ _ _ _)
   | (with_reducible exact ih2 _ _ _ _)
   | (with_reducible exact edit_Check.mono _ _ _)
   | (with_reducible exact LeO.refl _)
   | (with_reducible exact LeO.none _)
   | (with_reducible refine LeO.ite ?_ ?_)
   | (with_reducible refine LeO.bind ?_ (fun _ => ?_))
   | exact ih0 _ _ _ _ _ _
   | exact ih1 _ _ _ _ _ _
   | exact ih2 _ _ _ _
   | exact edit_Check.mono _ _ _
   | exact LeO.none _
   | refine LeO.ite ?_ ?_
   | refine LeO.bind ?_ (fun _ => ?_)
  ·intro y0 y1 y2 y3 y4 y5
   unfold trial_edits.l1
   repeat' first
   | (with_reducible exact ih0 _ _ _ _ _ _)
   | (with_reducible exact ih1 _ _ _ _ _ _)
   | (with_reducible exact ih2 _ _ _ _)
   | (with_reducible exact edit_Check.mono _ _ _)
   | (with_reducible exact LeO.refl _)
   | (with_reducible exact LeO.none _)
   | (with_reducible refine LeO.ite ?_ ?_)
   | (with_reducible refine LeO.bind ?_ (fun _ => ?_))
   | exact ih0 _ _ _ _ _ _
   | exact ih1 _ _ _ _ _ _
   | exact ih2 _ _ _ _
   | exact edit_Check.mono _ _ _
   | exact LeO.none _
   | refine LeO.ite ?_ ?_
   | refine LeO.bind ?_ (fun _ => ?_)
  ·intro y0 y1 y2 y3
   unfold trial_edits.l2
   repeat' first
   | (with_reducible exact ih0 _ _ _ _ _ _)
   | (with_reducible exact ih1 _ _ _ _ _ _)
   | (with_reducible exact ih2 _ _ _ _)
   | (with_reducible exact edit_Check.mono _ _ _)
   | (with_reducible exact LeO.refl _)
   | (with_reducible exact LeO.none _)
   | (with_reducible refine LeO.ite ?_ ?_)
   | (with_reducible refine LeO.bind ?_ (fun _ => ?_))
   | exact ih0 _ _ _ _ _ _
   | exact ih1 _ _ _ _ _ _
   | exact ih2 _ _ _ _
   | exact edit_Check.mono _ _ _
   | exact LeO.none _
   | refine LeO.ite ?_ ?_
   | refine LeO.bind ?_ (fun _ => ?_)
theorem trial_edits.mono : ∀ a0 a1 k, LeO (trial_edits.f k a0 a1) (trial_edits.f (k + 1) a0 a1) := by
 intro a0 a1 k
 obtain ⟨ih0, ih1, ih2⟩ := trial_edits.mono_l k
 unfold trial_edits.f
 repeat' first
   | (with_reducible exact ih0 _ _ _ _ _ _)
   | (with_reducible exact ih1 _ _ _ _ _ _)
   | (with_reducible exact ih2 _ _ _ _)
   | (with_reducible exact edit_Check.mono _ _ _)
   | (with_reducible exact LeO.refl _)
   | (with_reducible exact LeO.none _)
   | (with_reducible refine LeO.ite ?_ ?_)
   | (with_reducible refine LeO.bind ?_ (fun _ => ?_))
   | exact ih0 _ _ _ _ _ _
   | exact ih1 _ _ _ _ _ _
   | exact ih2 _ _ _ _
   | exact edit_Check.mono _ _ _
   | exact LeO.none _
   | refine LeO.ite ?_ ?_
   | refine LeO.bind ?_ (fun _ => ?_)
def trial_edits.T11 : Bool × List (List Nat × List Nat) := (true, [([], []), ([0], [0]), ([1], [1]), ([2], [2]), ([3, 2], [2, 3]), ([2], [2]), ([2], [2]), ([6, 2], [2, 6]), ([5, 7, 2], [2, 5, 7]), ([8, 2], [2, 8]), ([9, 2], [2, 9]), ([4, 10, 2], [2, 4, 10]), ([2, 11], [2, 11])])
def trial_edits.B11 : List Nat := [0, 1, 3, 7, 15, 7, 7, 71, 231, 487, 999, 2047, 4095]
theorem trial_edits.tab11 : rtab .any (opsOf Try.f38 11) = trial_edits.T11 := by kernel_rfl
theorem trial_edits.bits11 : waitsOk trial_edits.T11.2 trial_edits.B11 = true := by kernel_rfl
set_option maxHeartbeats 8000000 in
set_option maxRecDepth 100000 in
theorem trial_edits.calls (k : Nat) (A0 : Option Addr) (c0 : Nat) (l0 : List (S36)) (A1 : Option Addr) (c1 : Nat) (l1 : List (S34)) (r1 : Int) (r2 : Int) (r3 : Int) (r4 : Int) (w : World) (hr0 : Kd.C k36 w A0 l0.length l0) (hc0 : l0.length ≤ c0) (hr1 : Kd.C k34 w A1 l1.length l1) (hc1 : l1.length ≤ c1) (la : l0.length ≤ 1000000) (lb : l1.length ≤ 1000000) (h : trial_edits.f k l0 l1 = some (r1, r2, r3, r4)) :
  Calls Try.prog 38 #[.slice A0 l0.length c0, .slice A1 l1.length c1] w fun e w' => ∃ vm : Value, e = .returned (.tuple #[vm, .agg #[.int .i64 r2, .int .i64 r3, .int .i64 r4]]) ∧ Below w.heap.size w w' ∧ (r2 = 0 → ∃ (gm nm : Nat) (fm : Int → Value), vm = .map (some gm) ∧ MS w w' gm nm fm l1) := by
 have hu30 := Try.underlying30
 have hu34 := Try.underlying34
 have hu58 := Try.underlying58
 have hu36 := Try.underlying36
 have HR0 := a0_ hr0
 have HC0 := a0_ hc0
 clear hr0 hc0
 have HR1 := a0_ hr1
 have HC1 := a0_ hc1
 clear hr1 hc1
 have HB := a0_ (Below.refl w.heap.size w)
 have LA := a0_ la
 have LB := a0_ lb
 clear la lb
 have hmm := @run_makeMap Try.prog
 have H : (trial_edits.l0 k l0 l1 l1 l1 (l1.length : Int) 0) = some (r1, r2, r3, r4) := h
 clear h
 have H' := a0_ H
 clear H
 go_enter Try.func38, Try.ntmps38
 go_wp2_with (first | ((with_reducible refine gate_dst (N := 5) rfl ?_); (try (refine gate_guard (by rfl) ?_; dsimp only)); refine box_event ?hg (N := 5) ?hd (cs := #[.int .i64 0, .int .i64 0, .int .i64 0]) (t := 30) ?hr ?_; (case hd => rfl); (case hg => rfl); (case hr => first | (go_simp; done) | (go_simp; rfl)); intro gb114 hg w3 hbox hb; have BK114 := a0_ (hbox); have GW114 := a0_ ((by rw [hg]; exact (bZ_ (by exact HB.out)) : w.heap.size ≤ gb114)); have GE114 := a0_ ((by rw [hg]; exact (bZ_ (by exact HB.out)) : w.heap.size ≤ gb114)); replace HB := a0_ (bT_ (by exact HB.out) hb); clear hb hbox hg))
 go_loopg [17] k (fun kq v17 w' => ∃ (x17_1 : Int) (x115000_1 : Int) (x115001_1 : Int) (x115002_1 : Int), v17 = .int .i64 x17_1 ∧ Aside0 (trial_edits.l0 kq l0 l1 l1 l1 (l1.length : Int) x17_1 = some (r1, r2, r3, r4)) ∧ Aside0 (kq ≤ k) ∧ Aside0 (w'.heap[gb114]? = some (.cells #[.int .i64 x115000_1, .int .i64 x115001_1, .int .i64 x115002_1] 30 (0, 0))) ∧ Aside0 (Below w.heap.size w w') ∧ Aside0 (MS w w' w3.heap.size 0 (fun _ => .slice none 0 0) []))
 case atStart => exact ⟨(0), (0), (0), (0), (by first | rfl | (simp; done) | (simp [*]; done)), H', ⟨Nat.le_refl _⟩, ⟨by (with_reducible repeat (first | refine kN_ ?_ _ | refine kD_ ?_ | refine kA_ ?_ _)); exact BK114.out⟩, ⟨by repeat (first | (with_reducible first | exact HB.out | apply bA_ | apply bN_ | apply bD_ | refine bS_ ?_ GE114.out) | exact HB.out)⟩, ⟨MS.made w w3 HB.out.size⟩⟩
 case round =>
  clear H'
  obtain ⟨x17_1, x115000_1, x115001_1, x115002_1, rfl, HA, HK1, BK114, HB, HMS⟩ := hrel
  have HM := a0_ (Below.refl wr.heap.size wr)
  cases gk with
  | zero => exact absurd HA.out (by simp [trial_edits.l0])
  | succ k1 =>
   have H := HA.out
   clear HA
   simp only [trial_edits.l0] at H
   by_cases c4 : x17_1 < (l1.length : Int)
   ·rw [if_pos c4] at H
    have c4b0 := decide_eq_true c4
    clear c4
    by_cases c5 : 0 ≤ x17_1
    ·rw [if_pos c5] at H
     have c5b0 := decide_eq_true c5
     clear c5
     by_cases c6 : x17_1 < (l1.length : Int)
     ·rw [if_pos c6] at H
      have c6b0 := decide_eq_true c6
      clear c6
      by_cases c7 : ((rd_T34 l1 x17_1).f0) < 0
      ·rw [if_pos c7] at H
       have c7b0 := decide_eq_true c7
       clear c7
       simp only [Option.some.injEq, Prod.mk.injEq] at H
       obtain ⟨rfl, rfl, rfl, rfl⟩ := H
       have p115 : 0 ≤ (x17_1 : Int) := od_ (by assumption)
       have q115 : x17_1 < (l1.length : Int) := od_ (by assumption)
       obtain ⟨ad115, e115, hx115_0, hx115_1, hx115_2, hx115_3⟩ := at_T34 HR1.out x17_1 p115 q115
       cases e115
       replace hx115_0 := (HB.out.cell (bl_ w _ hx115_0)).trans hx115_0
       replace hx115_1 := (HB.out.cell (bl_ w _ hx115_1)).trans hx115_1
       replace hx115_2 := (HB.out.cell (bl_ w _ hx115_2)).trans hx115_2
       replace hx115_3 := (HB.out.cell (bl_ w _ hx115_3)).trans hx115_3
       replace p115 := eq_true p115
       replace q115 := eq_true q115
       try go_wp2_with (first | ((with_reducible refine gate_dst (N := 8) rfl ?_); (try (refine gate_guard (by rfl) ?_; dsimp only)); refine box_event ?hg (N := 8) ?hd (cs := #[.int .i64 0, .int .i64 0, .int .i64 0, .string (⟨#[]⟩ : ByteArray)]) (t := 34) ?hr ?_; (case hd => rfl); (case hg => rfl); (case hr => first | (go_simp; done) | (go_simp; rfl)); intro gb116 hg w8 hbox hb; have n0_ := a0_ (kB_ (g := gb114) (o := .cells #[.int .i64 x115000_1, .int .i64 x115001_1, .int .i64 x115002_1] 30 (0, 0)) (by exact BK114.out) hb); have n1_ := a0_ (bT_ (by exact HB.out) hb); have m1_ := a0_ (bT_ (by repeat (first | (with_reducible first | exact HM.out | apply bA_ | apply bN_ | apply bD_) | exact HM.out)) hb); have n2_ := a0_ (hbox); have n3_ := a0_ ((by rw [hg]; exact (bZ_ (by exact HB.out)) : w.heap.size ≤ gb116)); have n4_ := a0_ ((by rw [hg]; exact (bZ_ (by exact HB.out)) : w.heap.size ≤ gb116)); have m4_ := a0_ ((by rw [hg]; exact (bZ_ (by repeat (first | (with_reducible first | exact HM.out | apply bA_ | apply bN_ | apply bD_) | exact HM.out))) : wr.heap.size ≤ gb116)); have n5_ := a0_ ((by rw [hg]; exact Nat.ne_of_lt (blk_lt (g := gb114) (o := .cells #[.int .i64 x115000_1, .int .i64 x115001_1, .int .i64 x115002_1] 30 (0, 0)) (by exact BK114.out)) : gb114 ≠ gb116)); have n6_ := a0_ ((by rw [hg]; exact Nat.ne_of_gt (blk_lt (g := gb114) (o := .cells #[.int .i64 x115000_1, .int .i64 x115001_1, .int .i64 x115002_1] 30 (0, 0)) (by exact BK114.out)) : gb116 ≠ gb114)); clear BK114; clear HB HM; have BK114 := n0_; have HB := n1_; have HM := m1_; have BK116 := n2_; have GW116 := n3_; have GE116 := n4_; have GM116 := m4_; have NB114_116 := n5_; have NB116_114 := n6_; clear n0_ n1_ n2_ n3_ n4_ n5_ n6_ m1_ m4_; clear hb hbox hg; have hnb9 := NB116_114.out; have hnc9 := NB114_116.out; have hcz10_0 : w8.cell? ⟨gb116, 0, none⟩ = some (.int .i64 0) := (blk_cell BK116.out 0).trans rfl; have hcz10_1 : w8.cell? ⟨gb116, 1, none⟩ = some (.int .i64 0) := (blk_cell BK116.out 1).trans rfl; have hcz10_2 : w8.cell? ⟨gb116, 2, none⟩ = some (.int .i64 0) := (blk_cell BK116.out 2).trans rfl; have hcz10_3 : w8.cell? ⟨gb116, 3, none⟩ = some (.string (⟨#[]⟩ : ByteArray)) := (blk_cell BK116.out 3).trans rfl; have hfz10_0 := kF_ BK116.out 0; have hfz10_1 := kF_ BK116.out 1; have hfz10_2 := kF_ BK116.out 2; have hfz10_3 := kF_ BK116.out 3))
       have n0_ : Aside0 (((((w8.setCell ⟨gb116, 0, none⟩ (.int .i64 ((rd_T34 l1 x17_1).f0))).setCell ⟨gb116, 1, none⟩ (.int .i64 ((rd_T34 l1 x17_1).f1))).setCell ⟨gb116, 2, none⟩ (.int .i64 ((rd_T34 l1 x17_1).f2))).setCell ⟨gb116, 3, none⟩ (.string ((rd_T34 l1 x17_1).f3))).heap[gb114]? = some (.cells #[.int .i64 x115000_1, .int .i64 x115001_1, .int .i64 x115002_1] 30 (0, 0))) := ⟨by (with_reducible repeat (first | refine kN_ ?_ _ | refine kD_ ?_ | refine kA_ ?_ _)); refine blk_far ?_ NB114_116.out _; (with_reducible repeat (first | refine kN_ ?_ _ | refine kD_ ?_ | refine kA_ ?_ _)); refine blk_far ?_ NB114_116.out _; (with_reducible repeat (first | refine kN_ ?_ _ | refine kD_ ?_ | refine kA_ ?_ _)); refine blk_far ?_ NB114_116.out _; (with_reducible repeat (first | refine kN_ ?_ _ | refine kD_ ?_ | refine kA_ ?_ _)); refine blk_far ?_ NB114_116.out _; (with_reducible repeat (first | refine kN_ ?_ _ | refine kD_ ?_ | refine kA_ ?_ _)); exact BK114.out⟩
       have n1_ : Aside0 (((((w8.setCell ⟨gb116, 0, none⟩ (.int .i64 ((rd_T34 l1 x17_1).f0))).setCell ⟨gb116, 1, none⟩ (.int .i64 ((rd_T34 l1 x17_1).f1))).setCell ⟨gb116, 2, none⟩ (.int .i64 ((rd_T34 l1 x17_1).f2))).setCell ⟨gb116, 3, none⟩ (.string ((rd_T34 l1 x17_1).f3))).heap[gb116]? = some (.cells #[.int .i64 ((rd_T34 l1 x17_1).f0), .int .i64 ((rd_T34 l1 x17_1).f1), .int .i64 ((rd_T34 l1 x17_1).f2), .string ((rd_T34 l1 x17_1).f3)] 34 (0, 0))) := ⟨by refine blk_put (cs := #[.int .i64 ((rd_T34 l1 x17_1).f0), .int .i64 ((rd_T34 l1 x17_1).f1), .int .i64 ((rd_T34 l1 x17_1).f2), .string (⟨#[]⟩ : ByteArray)]) ?_ 3 _ rfl; refine blk_put (cs := #[.int .i64 ((rd_T34 l1 x17_1).f0), .int .i64 ((rd_T34 l1 x17_1).f1), .int .i64 0, .string (⟨#[]⟩ : ByteArray)]) ?_ 2 _ rfl; refine blk_put (cs := #[.int .i64 ((rd_T34 l1 x17_1).f0), .int .i64 0, .int .i64 0, .string (⟨#[]⟩ : ByteArray)]) ?_ 1 _ rfl; refine blk_put (cs := #[.int .i64 0, .int .i64 0, .int .i64 0, .string (⟨#[]⟩ : ByteArray)]) ?_ 0 _ rfl; exact BK116.out⟩
       have n2_ : Aside0 (Below w.heap.size w ((((w8.setCell ⟨gb116, 0, none⟩ (.int .i64 ((rd_T34 l1 x17_1).f0))).setCell ⟨gb116, 1, none⟩ (.int .i64 ((rd_T34 l1 x17_1).f1))).setCell ⟨gb116, 2, none⟩ (.int .i64 ((rd_T34 l1 x17_1).f2))).setCell ⟨gb116, 3, none⟩ (.string ((rd_T34 l1 x17_1).f3)))) := ⟨by repeat (first | (with_reducible first | exact HB.out | apply bA_ | apply bN_ | apply bD_ | refine bS_ ?_ GE114.out | refine bS_ ?_ GE116.out) | exact HB.out)⟩
       have m2_ : Aside0 (Below wr.heap.size wr ((((w8.setCell ⟨gb116, 0, none⟩ (.int .i64 ((rd_T34 l1 x17_1).f0))).setCell ⟨gb116, 1, none⟩ (.int .i64 ((rd_T34 l1 x17_1).f1))).setCell ⟨gb116, 2, none⟩ (.int .i64 ((rd_T34 l1 x17_1).f2))).setCell ⟨gb116, 3, none⟩ (.string ((rd_T34 l1 x17_1).f3)))) := ⟨by repeat (first | (with_reducible first | exact HM.out | apply bA_ | apply bN_ | apply bD_ | refine bS_ ?_ GM116.out) | exact HM.out)⟩
       generalize ((((w8.setCell ⟨gb116, 0, none⟩ (.int .i64 ((rd_T34 l1 x17_1).f0))).setCell ⟨gb116, 1, none⟩ (.int .i64 ((rd_T34 l1 x17_1).f1))).setCell ⟨gb116, 2, none⟩ (.int .i64 ((rd_T34 l1 x17_1).f2))).setCell ⟨gb116, 3, none⟩ (.string ((rd_T34 l1 x17_1).f3))) = w11 at n0_ n1_ n2_ m2_ ⊢
       have BK114 := n0_
       have BK116 := n1_
       have HB := n2_; have HM := m2_
       clear n0_ n1_ n2_ m2_
       have n0_ := a0_ (kD_ BK114.out)
       have n1_ := a0_ (kD_ BK116.out)
       have n2_ := a0_ (bD_ HB.out)
       have m2_ := a0_ (bD_ HM.out)
       clear BK114
       clear BK116
       clear HB HM
       have BK114 := n0_
       have BK116 := n1_
       have HB := n2_; have HM := m2_
       clear n0_ n1_ n2_ m2_
       refine start_ (n := 7) (S := fun w' => w'.cell? ⟨gb116, 0, none⟩ = some (.int .i64 ((rd_T34 l1 x17_1).f0)) ∧ w'.cell? ⟨gb116, 1, none⟩ = some (.int .i64 ((rd_T34 l1 x17_1).f1)) ∧ w'.cell? ⟨gb116, 2, none⟩ = some (.int .i64 ((rd_T34 l1 x17_1).f2)) ∧ w'.cell? ⟨gb116, 3, none⟩ = some (.string ((rd_T34 l1 x17_1).f3))) (ds := []) #[false, false, false, false, false, false, false] (by kernel_rfl) rfl rfl ⟨(blk_cell BK116.out 0).trans rfl, (blk_cell BK116.out 1).trans rfl, (blk_cell BK116.out 2).trans rfl, (blk_cell BK116.out 3).trans rfl⟩ (fun hHeld => ?_)
       generalize w11.drew = w12 at BK114 BK116 HB HM hHeld ⊢
       refine pure_ (i := 0) (N := some 31) #[true, false, false, false, false, false, false] rfl rfl (by kernel_rfl) (fun _ _ _ h => h) (Or.inl ⟨by rfl, fun w' => by go_simp; with_reducible rfl⟩) (by simp only [ps_]; rfl) ?_
       refine pure_ (i := 2) (N := some 33) #[true, false, true, false, false, false, false] rfl rfl (by kernel_rfl) (fun _ _ _ h => h) (Or.inl ⟨by rfl, fun w' => by go_simp; with_reducible rfl⟩) (by simp only [ps_]; rfl) ?_
       refine pure_ (i := 5) (N := some 4) #[true, false, true, false, false, true, false] rfl rfl (by kernel_rfl) (fun _ _ _ h => h) (Or.inl ⟨by rfl, fun w' => by go_simp; with_reducible rfl⟩) (by simp only [ps_]; rfl) ?_
       refine take_ (i := 1) (N := some 32) (v := ?_) (a' := ?_) #[true, true, true, false, false, true, false] rfl rfl (by kernel_rfl) (fun _ _ _ h => h) (Or.inl ⟨by rfl, ?_⟩) hHeld ?_ ?_
       rotate_left
       ·rintro w' ⟨s0, s1, s2, s3⟩
        go_simp
        with_reducible rfl
       rotate_left
       ·simp only [ps_]
        rfl
       refine take_ (i := 3) (N := some 34) (v := ?_) (a' := ?_) #[true, true, true, true, false, true, false] rfl rfl (by kernel_rfl) (fun _ _ _ h => h) (Or.inl ⟨by rfl, ?_⟩) hHeld ?_ ?_
       rotate_left
       ·rintro w' ⟨s0, s1, s2, s3⟩
        go_simp
        with_reducible rfl
       rotate_left
       ·simp only [ps_]
        rfl
       refine pure_ (i := 4) (N := some 35) #[true, true, true, true, true, true, false] rfl rfl (by kernel_rfl) (fun _ _ _ h => h) (Or.inl ⟨by rfl, fun w' => by go_simp; with_reducible rfl⟩) (by simp only [ps_]; rfl) ?_
       refine one_ (i := 6) (N := none) #[true, true, true, true, true, true, true] rfl rfl (by kernel_rfl) (by decide) (fun K hK => ?_)
       have hs13 : w12.cell? ⟨gb114, 0, none⟩ = some (.int .i64 x115000_1) := (blk_cell BK114.out 0).trans rfl
       have hfs13 := kF_ BK114.out 0
       have hns13_1 := NB116_114.out
       have hms13_1 := NB114_116.out
       have hs14 : w12.cell? ⟨gb114, 1, none⟩ = some (.int .i64 x115001_1) := (blk_cell BK114.out 1).trans rfl
       have hfs14 := kF_ BK114.out 1
       have hns14_1 := NB116_114.out
       have hms14_1 := NB114_116.out
       have hs15 : w12.cell? ⟨gb114, 2, none⟩ = some (.int .i64 x115002_1) := (blk_cell BK114.out 2).trans rfl
       have hfs15 := kF_ BK114.out 2
       have hns15_1 := NB116_114.out
       have hms15_1 := NB114_116.out
       refine skip_ (w1 := ?_) (by rfl) rfl ?_ ?_
       rotate_left
       ·go_simp
        rfl
       refine hK.out _ _ ⟨((cell_far (p := ⟨gb114, _, none⟩) NB116_114.out _).trans (((cell_far (p := ⟨gb114, _, none⟩) NB116_114.out _).trans (((cell_far (p := ⟨gb114, _, none⟩) NB116_114.out _).trans (hHeld.1)))))), ((cell_far (p := ⟨gb114, _, none⟩) NB116_114.out _).trans (((cell_far (p := ⟨gb114, _, none⟩) NB116_114.out _).trans (((cell_far (p := ⟨gb114, _, none⟩) NB116_114.out _).trans (hHeld.2.1)))))), ((cell_far (p := ⟨gb114, _, none⟩) NB116_114.out _).trans (((cell_far (p := ⟨gb114, _, none⟩) NB116_114.out _).trans (((cell_far (p := ⟨gb114, _, none⟩) NB116_114.out _).trans (hHeld.2.2.1)))))), ((cell_far (p := ⟨gb114, _, none⟩) NB116_114.out _).trans (((cell_far (p := ⟨gb114, _, none⟩) NB116_114.out _).trans (((cell_far (p := ⟨gb114, _, none⟩) NB116_114.out _).trans (hHeld.2.2.2))))))⟩ (fun hHeld => ?_)
       clear hK K
       refine done_ (by kernel_rfl) ?_
       try go_wp2
       refine bodyPost_ret (results_tc rfl _ _ gb114 30 #[.int .i64 2, .int .i64 ((rd_T34 l1 x17_1).f0), .int .i64 ((rd_T34 l1 x17_1).f1)] (0, 0) _ rfl (by (with_reducible repeat (first | refine kN_ ?_ _ | refine kD_ ?_ | refine kA_ ?_ _)); refine blk_put (cs := #[.int .i64 2, .int .i64 ((rd_T34 l1 x17_1).f0), .int .i64 x115002_1]) ?_ 2 _ rfl; (with_reducible repeat (first | refine kN_ ?_ _ | refine kD_ ?_ | refine kA_ ?_ _)); refine blk_put (cs := #[.int .i64 2, .int .i64 x115001_1, .int .i64 x115002_1]) ?_ 1 _ rfl; (with_reducible repeat (first | refine kN_ ?_ _ | refine kD_ ?_ | refine kA_ ?_ _)); refine blk_put (cs := #[.int .i64 x115000_1, .int .i64 x115001_1, .int .i64 x115002_1]) ?_ 0 _ rfl; (with_reducible repeat (first | refine kN_ ?_ _ | refine kD_ ?_ | refine kA_ ?_ _)); exact BK114.out) Try.underlying30 rfl (by kernel_rfl)) rfl ?_
       exact ⟨_, by first | rfl | (simp [errW_none, errW_some] <;> rfl) | (simp [*, errW_none, errW_some] <;> rfl), by repeat (first | (with_reducible first | exact HB.out | apply bA_ | apply bN_ | apply bD_ | refine bS_ ?_ GE114.out | refine bS_ ?_ GE116.out) | exact HB.out), fun h_ => absurd h_ (by decide)⟩
      ·rw [if_neg c7] at H
       have c7b0 := decide_eq_false c7
       clear c7
       by_cases c16 : ((rd_T34 l1 x17_1).f0) ≥ (l0.length : Int)
       ·rw [if_pos c16] at H
        have c16b0 := decide_eq_true c16
        clear c16
        simp only [Option.some.injEq, Prod.mk.injEq] at H
        obtain ⟨rfl, rfl, rfl, rfl⟩ := H
        have p115 : 0 ≤ (x17_1 : Int) := od_ (by assumption)
        have q115 : x17_1 < (l1.length : Int) := od_ (by assumption)
        obtain ⟨ad115, e115, hx115_0, hx115_1, hx115_2, hx115_3⟩ := at_T34 HR1.out x17_1 p115 q115
        cases e115
        replace hx115_0 := (HB.out.cell (bl_ w _ hx115_0)).trans hx115_0
        replace hx115_1 := (HB.out.cell (bl_ w _ hx115_1)).trans hx115_1
        replace hx115_2 := (HB.out.cell (bl_ w _ hx115_2)).trans hx115_2
        replace hx115_3 := (HB.out.cell (bl_ w _ hx115_3)).trans hx115_3
        replace p115 := eq_true p115
        replace q115 := eq_true q115
        try go_wp2_with (first | ((with_reducible refine gate_dst (N := 8) rfl ?_); (try (refine gate_guard (by rfl) ?_; dsimp only)); refine box_event ?hg (N := 8) ?hd (cs := #[.int .i64 0, .int .i64 0, .int .i64 0, .string (⟨#[]⟩ : ByteArray)]) (t := 34) ?hr ?_; (case hd => rfl); (case hg => rfl); (case hr => first | (go_simp; done) | (go_simp; rfl)); intro gb116 hg w17 hbox hb; have n0_ := a0_ (kB_ (g := gb114) (o := .cells #[.int .i64 x115000_1, .int .i64 x115001_1, .int .i64 x115002_1] 30 (0, 0)) (by exact BK114.out) hb); have n1_ := a0_ (bT_ (by exact HB.out) hb); have m1_ := a0_ (bT_ (by repeat (first | (with_reducible first | exact HM.out | apply bA_ | apply bN_ | apply bD_) | exact HM.out)) hb); have n2_ := a0_ (hbox); have n3_ := a0_ ((by rw [hg]; exact (bZ_ (by exact HB.out)) : w.heap.size ≤ gb116)); have n4_ := a0_ ((by rw [hg]; exact (bZ_ (by exact HB.out)) : w.heap.size ≤ gb116)); have m4_ := a0_ ((by rw [hg]; exact (bZ_ (by repeat (first | (with_reducible first | exact HM.out | apply bA_ | apply bN_ | apply bD_) | exact HM.out))) : wr.heap.size ≤ gb116)); have n5_ := a0_ ((by rw [hg]; exact Nat.ne_of_lt (blk_lt (g := gb114) (o := .cells #[.int .i64 x115000_1, .int .i64 x115001_1, .int .i64 x115002_1] 30 (0, 0)) (by exact BK114.out)) : gb114 ≠ gb116)); have n6_ := a0_ ((by rw [hg]; exact Nat.ne_of_gt (blk_lt (g := gb114) (o := .cells #[.int .i64 x115000_1, .int .i64 x115001_1, .int .i64 x115002_1] 30 (0, 0)) (by exact BK114.out)) : gb116 ≠ gb114)); clear BK114; clear HB HM; have BK114 := n0_; have HB := n1_; have HM := m1_; have BK116 := n2_; have GW116 := n3_; have GE116 := n4_; have GM116 := m4_; have NB114_116 := n5_; have NB116_114 := n6_; clear n0_ n1_ n2_ n3_ n4_ n5_ n6_ m1_ m4_; clear hb hbox hg; have hnb18 := NB116_114.out; have hnc18 := NB114_116.out; have hcz19_0 : w17.cell? ⟨gb116, 0, none⟩ = some (.int .i64 0) := (blk_cell BK116.out 0).trans rfl; have hcz19_1 : w17.cell? ⟨gb116, 1, none⟩ = some (.int .i64 0) := (blk_cell BK116.out 1).trans rfl; have hcz19_2 : w17.cell? ⟨gb116, 2, none⟩ = some (.int .i64 0) := (blk_cell BK116.out 2).trans rfl; have hcz19_3 : w17.cell? ⟨gb116, 3, none⟩ = some (.string (⟨#[]⟩ : ByteArray)) := (blk_cell BK116.out 3).trans rfl; have hfz19_0 := kF_ BK116.out 0; have hfz19_1 := kF_ BK116.out 1; have hfz19_2 := kF_ BK116.out 2; have hfz19_3 := kF_ BK116.out 3))
        have n0_ : Aside0 (((((w17.setCell ⟨gb116, 0, none⟩ (.int .i64 ((rd_T34 l1 x17_1).f0))).setCell ⟨gb116, 1, none⟩ (.int .i64 ((rd_T34 l1 x17_1).f1))).setCell ⟨gb116, 2, none⟩ (.int .i64 ((rd_T34 l1 x17_1).f2))).setCell ⟨gb116, 3, none⟩ (.string ((rd_T34 l1 x17_1).f3))).heap[gb114]? = some (.cells #[.int .i64 x115000_1, .int .i64 x115001_1, .int .i64 x115002_1] 30 (0, 0))) := ⟨by (with_reducible repeat (first | refine kN_ ?_ _ | refine kD_ ?_ | refine kA_ ?_ _)); refine blk_far ?_ NB114_116.out _; (with_reducible repeat (first | refine kN_ ?_ _ | refine kD_ ?_ | refine kA_ ?_ _)); refine blk_far ?_ NB114_116.out _; (with_reducible repeat (first | refine kN_ ?_ _ | refine kD_ ?_ | refine kA_ ?_ _)); refine blk_far ?_ NB114_116.out _; (with_reducible repeat (first | refine kN_ ?_ _ | refine kD_ ?_ | refine kA_ ?_ _)); refine blk_far ?_ NB114_116.out _; (with_reducible repeat (first | refine kN_ ?_ _ | refine kD_ ?_ | refine kA_ ?_ _)); exact BK114.out⟩
        have n1_ : Aside0 (((((w17.setCell ⟨gb116, 0, none⟩ (.int .i64 ((rd_T34 l1 x17_1).f0))).setCell ⟨gb116, 1, none⟩ (.int .i64 ((rd_T34 l1 x17_1).f1))).setCell ⟨gb116, 2, none⟩ (.int .i64 ((rd_T34 l1 x17_1).f2))).setCell ⟨gb116, 3, none⟩ (.string ((rd_T34 l1 x17_1).f3))).heap[gb116]? = some (.cells #[.int .i64 ((rd_T34 l1 x17_1).f0), .int .i64 ((rd_T34 l1 x17_1).f1), .int .i64 ((rd_T34 l1 x17_1).f2), .string ((rd_T34 l1 x17_1).f3)] 34 (0, 0))) := ⟨by refine blk_put (cs := #[.int .i64 ((rd_T34 l1 x17_1).f0), .int .i64 ((rd_T34 l1 x17_1).f1), .int .i64 ((rd_T34 l1 x17_1).f2), .string (⟨#[]⟩ : ByteArray)]) ?_ 3 _ rfl; refine blk_put (cs := #[.int .i64 ((rd_T34 l1 x17_1).f0), .int .i64 ((rd_T34 l1 x17_1).f1), .int .i64 0, .string (⟨#[]⟩ : ByteArray)]) ?_ 2 _ rfl; refine blk_put (cs := #[.int .i64 ((rd_T34 l1 x17_1).f0), .int .i64 0, .int .i64 0, .string (⟨#[]⟩ : ByteArray)]) ?_ 1 _ rfl; refine blk_put (cs := #[.int .i64 0, .int .i64 0, .int .i64 0, .string (⟨#[]⟩ : ByteArray)]) ?_ 0 _ rfl; exact BK116.out⟩
        have n2_ : Aside0 (Below w.heap.size w ((((w17.setCell ⟨gb116, 0, none⟩ (.int .i64 ((rd_T34 l1 x17_1).f0))).setCell ⟨gb116, 1, none⟩ (.int .i64 ((rd_T34 l1 x17_1).f1))).setCell ⟨gb116, 2, none⟩ (.int .i64 ((rd_T34 l1 x17_1).f2))).setCell ⟨gb116, 3, none⟩ (.string ((rd_T34 l1 x17_1).f3)))) := ⟨by repeat (first | (with_reducible first | exact HB.out | apply bA_ | apply bN_ | apply bD_ | refine bS_ ?_ GE114.out | refine bS_ ?_ GE116.out) | exact HB.out)⟩
        have m2_ : Aside0 (Below wr.heap.size wr ((((w17.setCell ⟨gb116, 0, none⟩ (.int .i64 ((rd_T34 l1 x17_1).f0))).setCell ⟨gb116, 1, none⟩ (.int .i64 ((rd_T34 l1 x17_1).f1))).setCell ⟨gb116, 2, none⟩ (.int .i64 ((rd_T34 l1 x17_1).f2))).setCell ⟨gb116, 3, none⟩ (.string ((rd_T34 l1 x17_1).f3)))) := ⟨by repeat (first | (with_reducible first | exact HM.out | apply bA_ | apply bN_ | apply bD_ | refine bS_ ?_ GM116.out) | exact HM.out)⟩
        generalize ((((w17.setCell ⟨gb116, 0, none⟩ (.int .i64 ((rd_T34 l1 x17_1).f0))).setCell ⟨gb116, 1, none⟩ (.int .i64 ((rd_T34 l1 x17_1).f1))).setCell ⟨gb116, 2, none⟩ (.int .i64 ((rd_T34 l1 x17_1).f2))).setCell ⟨gb116, 3, none⟩ (.string ((rd_T34 l1 x17_1).f3))) = w20 at n0_ n1_ n2_ m2_ ⊢
        have BK114 := n0_
        have BK116 := n1_
        have HB := n2_; have HM := m2_
        clear n0_ n1_ n2_ m2_
        have n0_ := a0_ (kD_ BK114.out)
        have n1_ := a0_ (kD_ BK116.out)
        have n2_ := a0_ (bD_ HB.out)
        have m2_ := a0_ (bD_ HM.out)
        clear BK114
        clear BK116
        clear HB HM
        have BK114 := n0_
        have BK116 := n1_
        have HB := n2_; have HM := m2_
        clear n0_ n1_ n2_ m2_
        refine start_ (n := 7) (S := fun w' => w'.cell? ⟨gb116, 0, none⟩ = some (.int .i64 ((rd_T34 l1 x17_1).f0)) ∧ w'.cell? ⟨gb116, 1, none⟩ = some (.int .i64 ((rd_T34 l1 x17_1).f1)) ∧ w'.cell? ⟨gb116, 2, none⟩ = some (.int .i64 ((rd_T34 l1 x17_1).f2)) ∧ w'.cell? ⟨gb116, 3, none⟩ = some (.string ((rd_T34 l1 x17_1).f3))) (ds := []) #[false, false, false, false, false, false, false] (by kernel_rfl) rfl rfl ⟨(blk_cell BK116.out 0).trans rfl, (blk_cell BK116.out 1).trans rfl, (blk_cell BK116.out 2).trans rfl, (blk_cell BK116.out 3).trans rfl⟩ (fun hHeld => ?_)
        generalize w20.drew = w21 at BK114 BK116 HB HM hHeld ⊢
        refine pure_ (i := 0) (N := some 31) #[true, false, false, false, false, false, false] rfl rfl (by kernel_rfl) (fun _ _ _ h => h) (Or.inl ⟨by rfl, fun w' => by go_simp; with_reducible rfl⟩) (by simp only [ps_]; rfl) ?_
        refine pure_ (i := 2) (N := some 33) #[true, false, true, false, false, false, false] rfl rfl (by kernel_rfl) (fun _ _ _ h => h) (Or.inl ⟨by rfl, fun w' => by go_simp; with_reducible rfl⟩) (by simp only [ps_]; rfl) ?_
        refine pure_ (i := 5) (N := some 4) #[true, false, true, false, false, true, false] rfl rfl (by kernel_rfl) (fun _ _ _ h => h) (Or.inl ⟨by rfl, fun w' => by go_simp; with_reducible rfl⟩) (by simp only [ps_]; rfl) ?_
        refine take_ (i := 1) (N := some 32) (v := ?_) (a' := ?_) #[true, true, true, false, false, true, false] rfl rfl (by kernel_rfl) (fun _ _ _ h => h) (Or.inl ⟨by rfl, ?_⟩) hHeld ?_ ?_
        rotate_left
        ·rintro w' ⟨s0, s1, s2, s3⟩
         go_simp
         with_reducible rfl
        rotate_left
        ·simp only [ps_]
         rfl
        refine take_ (i := 3) (N := some 34) (v := ?_) (a' := ?_) #[true, true, true, true, false, true, false] rfl rfl (by kernel_rfl) (fun _ _ _ h => h) (Or.inl ⟨by rfl, ?_⟩) hHeld ?_ ?_
        rotate_left
        ·rintro w' ⟨s0, s1, s2, s3⟩
         go_simp
         with_reducible rfl
        rotate_left
        ·simp only [ps_]
         rfl
        refine pure_ (i := 4) (N := some 35) #[true, true, true, true, true, true, false] rfl rfl (by kernel_rfl) (fun _ _ _ h => h) (Or.inl ⟨by rfl, fun w' => by go_simp; with_reducible rfl⟩) (by simp only [ps_]; rfl) ?_
        refine one_ (i := 6) (N := none) #[true, true, true, true, true, true, true] rfl rfl (by kernel_rfl) (by decide) (fun K hK => ?_)
        have hs22 : w21.cell? ⟨gb114, 0, none⟩ = some (.int .i64 x115000_1) := (blk_cell BK114.out 0).trans rfl
        have hfs22 := kF_ BK114.out 0
        have hns22_1 := NB116_114.out
        have hms22_1 := NB114_116.out
        have hs23 : w21.cell? ⟨gb114, 1, none⟩ = some (.int .i64 x115001_1) := (blk_cell BK114.out 1).trans rfl
        have hfs23 := kF_ BK114.out 1
        have hns23_1 := NB116_114.out
        have hms23_1 := NB114_116.out
        have hs24 : w21.cell? ⟨gb114, 2, none⟩ = some (.int .i64 x115002_1) := (blk_cell BK114.out 2).trans rfl
        have hfs24 := kF_ BK114.out 2
        have hns24_1 := NB116_114.out
        have hms24_1 := NB114_116.out
        refine skip_ (w1 := ?_) (by rfl) rfl ?_ ?_
        rotate_left
        ·go_simp
         rfl
        refine hK.out _ _ ⟨((cell_far (p := ⟨gb114, _, none⟩) NB116_114.out _).trans (((cell_far (p := ⟨gb114, _, none⟩) NB116_114.out _).trans (((cell_far (p := ⟨gb114, _, none⟩) NB116_114.out _).trans (hHeld.1)))))), ((cell_far (p := ⟨gb114, _, none⟩) NB116_114.out _).trans (((cell_far (p := ⟨gb114, _, none⟩) NB116_114.out _).trans (((cell_far (p := ⟨gb114, _, none⟩) NB116_114.out _).trans (hHeld.2.1)))))), ((cell_far (p := ⟨gb114, _, none⟩) NB116_114.out _).trans (((cell_far (p := ⟨gb114, _, none⟩) NB116_114.out _).trans (((cell_far (p := ⟨gb114, _, none⟩) NB116_114.out _).trans (hHeld.2.2.1)))))), ((cell_far (p := ⟨gb114, _, none⟩) NB116_114.out _).trans (((cell_far (p := ⟨gb114, _, none⟩) NB116_114.out _).trans (((cell_far (p := ⟨gb114, _, none⟩) NB116_114.out _).trans (hHeld.2.2.2))))))⟩ (fun hHeld => ?_)
        clear hK K
        refine done_ (by kernel_rfl) ?_
        try go_wp2
        refine bodyPost_ret (results_tc rfl _ _ gb114 30 #[.int .i64 2, .int .i64 ((rd_T34 l1 x17_1).f0), .int .i64 ((rd_T34 l1 x17_1).f1)] (0, 0) _ rfl (by (with_reducible repeat (first | refine kN_ ?_ _ | refine kD_ ?_ | refine kA_ ?_ _)); refine blk_put (cs := #[.int .i64 2, .int .i64 ((rd_T34 l1 x17_1).f0), .int .i64 x115002_1]) ?_ 2 _ rfl; (with_reducible repeat (first | refine kN_ ?_ _ | refine kD_ ?_ | refine kA_ ?_ _)); refine blk_put (cs := #[.int .i64 2, .int .i64 x115001_1, .int .i64 x115002_1]) ?_ 1 _ rfl; (with_reducible repeat (first | refine kN_ ?_ _ | refine kD_ ?_ | refine kA_ ?_ _)); refine blk_put (cs := #[.int .i64 x115000_1, .int .i64 x115001_1, .int .i64 x115002_1]) ?_ 0 _ rfl; (with_reducible repeat (first | refine kN_ ?_ _ | refine kD_ ?_ | refine kA_ ?_ _)); exact BK114.out) Try.underlying30 rfl (by kernel_rfl)) rfl ?_
        exact ⟨_, by first | rfl | (simp [errW_none, errW_some] <;> rfl) | (simp [*, errW_none, errW_some] <;> rfl), by repeat (first | (with_reducible first | exact HB.out | apply bA_ | apply bN_ | apply bD_ | refine bS_ ?_ GE114.out | refine bS_ ?_ GE116.out) | exact HB.out), fun h_ => absurd h_ (by decide)⟩
       ·rw [if_neg c16] at H
        have c16b0 := decide_eq_false c16
        clear c16
        have H' := a0_ H
        clear H
        have p115 : 0 ≤ (x17_1 : Int) := od_ (by assumption)
        have q115 : x17_1 < (l1.length : Int) := od_ (by assumption)
        obtain ⟨ad115, e115, hx115_0, hx115_1, hx115_2, hx115_3⟩ := at_T34 HR1.out x17_1 p115 q115
        cases e115
        replace hx115_0 := (HB.out.cell (bl_ w _ hx115_0)).trans hx115_0
        replace hx115_1 := (HB.out.cell (bl_ w _ hx115_1)).trans hx115_1
        replace hx115_2 := (HB.out.cell (bl_ w _ hx115_2)).trans hx115_2
        replace hx115_3 := (HB.out.cell (bl_ w _ hx115_3)).trans hx115_3
        replace p115 := eq_true p115
        replace q115 := eq_true q115
        go_wp2_with (first | ((with_reducible refine gate_dst (N := 8) rfl ?_); (try (refine gate_guard (by rfl) ?_; dsimp only)); refine box_event ?hg (N := 8) ?hd (cs := #[.int .i64 0, .int .i64 0, .int .i64 0, .string (⟨#[]⟩ : ByteArray)]) (t := 34) ?hr ?_; (case hd => rfl); (case hg => rfl); (case hr => first | (go_simp; done) | (go_simp; rfl)); intro gb116 hg w25 hbox hb; have n0_ := a0_ (kB_ (g := gb114) (o := .cells #[.int .i64 x115000_1, .int .i64 x115001_1, .int .i64 x115002_1] 30 (0, 0)) (by exact BK114.out) hb); have n1_ := a0_ (bT_ (by exact HB.out) hb); have m1_ := a0_ (bT_ (by repeat (first | (with_reducible first | exact HM.out | apply bA_ | apply bN_ | apply bD_) | exact HM.out)) hb); have n2_ := a0_ (hbox); have n3_ := a0_ ((by rw [hg]; exact (bZ_ (by exact HB.out)) : w.heap.size ≤ gb116)); have n4_ := a0_ ((by rw [hg]; exact (bZ_ (by exact HB.out)) : w.heap.size ≤ gb116)); have m4_ := a0_ ((by rw [hg]; exact (bZ_ (by repeat (first | (with_reducible first | exact HM.out | apply bA_ | apply bN_ | apply bD_) | exact HM.out))) : wr.heap.size ≤ gb116)); have n5_ := a0_ ((by rw [hg]; exact Nat.ne_of_lt (blk_lt (g := gb114) (o := .cells #[.int .i64 x115000_1, .int .i64 x115001_1, .int .i64 x115002_1] 30 (0, 0)) (by exact BK114.out)) : gb114 ≠ gb116)); have n6_ := a0_ ((by rw [hg]; exact Nat.ne_of_gt (blk_lt (g := gb114) (o := .cells #[.int .i64 x115000_1, .int .i64 x115001_1, .int .i64 x115002_1] 30 (0, 0)) (by exact BK114.out)) : gb116 ≠ gb114)); clear BK114; clear HB HM; have BK114 := n0_; have HB := n1_; have HM := m1_; have BK116 := n2_; have GW116 := n3_; have GE116 := n4_; have GM116 := m4_; have NB114_116 := n5_; have NB116_114 := n6_; clear n0_ n1_ n2_ n3_ n4_ n5_ n6_ m1_ m4_; clear hb hbox hg; have hnb26 := NB116_114.out; have hnc26 := NB114_116.out; have hcz27_0 : w25.cell? ⟨gb116, 0, none⟩ = some (.int .i64 0) := (blk_cell BK116.out 0).trans rfl; have hcz27_1 : w25.cell? ⟨gb116, 1, none⟩ = some (.int .i64 0) := (blk_cell BK116.out 1).trans rfl; have hcz27_2 : w25.cell? ⟨gb116, 2, none⟩ = some (.int .i64 0) := (blk_cell BK116.out 2).trans rfl; have hcz27_3 : w25.cell? ⟨gb116, 3, none⟩ = some (.string (⟨#[]⟩ : ByteArray)) := (blk_cell BK116.out 3).trans rfl; have hfz27_0 := kF_ BK116.out 0; have hfz27_1 := kF_ BK116.out 1; have hfz27_2 := kF_ BK116.out 2; have hfz27_3 := kF_ BK116.out 3))
        go_roundg k1
        case measure => have := HK1.out; omega
        case rel => exact ⟨(wrap64 (x17_1 + 1)), (x115000_1), (x115001_1), (x115002_1), (by first | rfl | (simp; done) | (simp [*]; done)), H', ⟨by have := HK1.out; omega⟩, ⟨by (with_reducible repeat (first | refine kN_ ?_ _ | refine kD_ ?_ | refine kA_ ?_ _)); refine blk_far ?_ NB114_116.out _; (with_reducible repeat (first | refine kN_ ?_ _ | refine kD_ ?_ | refine kA_ ?_ _)); refine blk_far ?_ NB114_116.out _; (with_reducible repeat (first | refine kN_ ?_ _ | refine kD_ ?_ | refine kA_ ?_ _)); refine blk_far ?_ NB114_116.out _; (with_reducible repeat (first | refine kN_ ?_ _ | refine kD_ ?_ | refine kA_ ?_ _)); refine blk_far ?_ NB114_116.out _; (with_reducible repeat (first | refine kN_ ?_ _ | refine kD_ ?_ | refine kA_ ?_ _)); exact BK114.out⟩, ⟨by repeat (first | (with_reducible first | exact HB.out | apply bA_ | apply bN_ | apply bD_ | refine bS_ ?_ GE114.out | refine bS_ ?_ GE116.out) | exact HB.out)⟩, ⟨HMS.out.below (by repeat (first | (with_reducible first | exact HM.out | apply bA_ | apply bN_ | apply bD_ | refine bS_ ?_ GM116.out) | exact HM.out))⟩⟩
     ·rw [if_neg c6] at H
      exact absurd H (by simp)
    ·rw [if_neg c5] at H
     exact absurd H (by simp)
   ·rw [if_neg c4] at H
    have c4b0 := decide_eq_false c4
    by_cases cR : (∀ x ∈ l1, 0 ≤ x.f0 ∧ x.f0 < (l0.length : Int))
    case neg => rw [if_neg cR] at H; exact absurd H (by simp)
    rw [if_pos cR] at H
    replace cR := a0_ cR
    clear c4
    have H' := a0_ H
    clear H
    go_wp2
    go_loopg [39] k1 (fun kq v39 w' => ∃ (nm_2 : Nat) (fm_2 : Int → Value) (x39_2 : Int) (x115000_2 : Int) (x115001_2 : Int) (x115002_2 : Int), v39 = .int .i64 x39_2 ∧ Aside0 (trial_edits.l1 kq l0 l1 l1 l1 (l1.length : Int) x39_2 = some (r1, r2, r3, r4)) ∧ Aside0 (kq ≤ k1) ∧ Aside0 (w'.heap[gb114]? = some (.cells #[.int .i64 x115000_2, .int .i64 x115001_2, .int .i64 x115002_2] 30 (0, 0))) ∧ Aside0 (Below w.heap.size w w') ∧ Aside0 (0 ≤ x39_2 ∧ (nm_2 : Int) ≤ x39_2) ∧ Aside0 (MS w w' w3.heap.size nm_2 fm_2 (l1.take x39_2.toNat)))
    case atStart => exact ⟨0, (fun _ => .slice none 0 0), (0), (x115000_1), (x115001_1), (x115002_1), (by first | rfl | (simp; done) | (simp [*]; done)), H', ⟨Nat.le_refl _⟩, ⟨by exact BK114.out⟩, ⟨by exact HB.out⟩, ⟨by decide⟩, ⟨HMS.out⟩⟩
    case round =>
     clear H'
     obtain ⟨nm_2, fm_2, x39_2, x115000_2, x115001_2, x115002_2, rfl, HA, HK2, BK114, HB, HN, HMS⟩ := hrel
     have HM := a0_ (Below.refl wr.heap.size wr)
     cases gk with
     | zero => exact absurd HA.out (by simp [trial_edits.l1])
     | succ k2 =>
      have H := HA.out
      clear HA
      simp only [trial_edits.l1] at H
      by_cases c28 : x39_2 < (l1.length : Int)
      ·rw [if_pos c28] at H
       have c28b0 := decide_eq_true c28
       clear c28
       by_cases c29 : 0 ≤ x39_2
       ·rw [if_pos c29] at H
        have c29b0 := decide_eq_true c29
        clear c29
        by_cases c30 : x39_2 < (l1.length : Int)
        ·rw [if_pos c30] at H
         have c30b0 := decide_eq_true c30
         clear c30
         by_cases c31 : x39_2 > 0
         ·rw [if_pos c31] at H
          have c31b0 := decide_eq_true c31
          clear c31
          obtain ⟨ji32, hji32⟩ : ∃ j_ : Int, (wrap64 (x39_2 - 1)) = j_ := ⟨_, rfl⟩
          replace H : (if 0 ≤ (ji32) then (if (ji32) < (l1.length : Int) then (if ((rd_T34 l1 x39_2).f0) < ((rd_T34 l1 (ji32)).f0) then (some (0, 3, (rd_T34 l1 x39_2).f0, (rd_T34 l1 x39_2).f1)) else (if ([] : List (S58)).length < 4398046511104 then (trial_edits.l1 k2 l0 l1 l1 l1 (l1.length : Int) (wrap64 (x39_2 + 1))) else (none))) else (none)) else (none)) = some (r1, r2, r3, r4) := by first | (rw [hji32] at H; exact H) | (simp only [hji32] at H ⊢; exact H)
          have hji32w : (IntKind.i64.wrap (x39_2 - 1)) = ji32 := (i64_w _).trans hji32
          by_cases c33 : 0 ≤ (ji32)
          ·rw [if_pos c33] at H
           have c33b0 := decide_eq_true c33
           clear c33
           by_cases c34 : (ji32) < (l1.length : Int)
           ·rw [if_pos c34] at H
            have c34b0 := decide_eq_true c34
            clear c34
            by_cases c35 : ((rd_T34 l1 x39_2).f0) < ((rd_T34 l1 (ji32)).f0)
            ·rw [if_pos c35] at H
             have c35b0 := decide_eq_true c35
             clear c35
             simp only [Option.some.injEq, Prod.mk.injEq] at H
             obtain ⟨rfl, rfl, rfl, rfl⟩ := H
             have p117 : 0 ≤ (x39_2 : Int) := od_ (by assumption)
             have q117 : x39_2 < (l1.length : Int) := od_ (by assumption)
             obtain ⟨ad117, e117, hx117_0, hx117_1, hx117_2, hx117_3⟩ := at_T34 HR1.out x39_2 p117 q117
             cases e117
             replace hx117_0 := (HB.out.cell (bl_ w _ hx117_0)).trans hx117_0
             replace hx117_1 := (HB.out.cell (bl_ w _ hx117_1)).trans hx117_1
             replace hx117_2 := (HB.out.cell (bl_ w _ hx117_2)).trans hx117_2
             replace hx117_3 := (HB.out.cell (bl_ w _ hx117_3)).trans hx117_3
             replace p117 := eq_true p117
             replace q117 := eq_true q117
             try go_wp2_with (first | ((with_reducible refine gate_dst (N := 10) rfl ?_); (try (refine gate_guard (by rfl) ?_; dsimp only)); refine box_event ?hg (N := 10) ?hd (cs := #[.int .i64 0, .int .i64 0, .int .i64 0, .string (⟨#[]⟩ : ByteArray)]) (t := 34) ?hr ?_; (case hd => rfl); (case hg => rfl); (case hr => first | (go_simp; done) | (go_simp; rfl)); intro gb118 hg w36 hbox hb; have n0_ := a0_ (kB_ (g := gb114) (o := .cells #[.int .i64 x115000_2, .int .i64 x115001_2, .int .i64 x115002_2] 30 (0, 0)) (by exact BK114.out) hb); have n1_ := a0_ (bT_ (by exact HB.out) hb); have m1_ := a0_ (bT_ (by repeat (first | (with_reducible first | exact HM.out | apply bA_ | apply bN_ | apply bD_) | exact HM.out)) hb); have n2_ := a0_ (hbox); have n3_ := a0_ ((by rw [hg]; exact (bZ_ (by exact HB.out)) : w.heap.size ≤ gb118)); have n4_ := a0_ ((by rw [hg]; exact (bZ_ (by exact HB.out)) : w.heap.size ≤ gb118)); have m4_ := a0_ ((by rw [hg]; exact (bZ_ (by repeat (first | (with_reducible first | exact HM.out | apply bA_ | apply bN_ | apply bD_) | exact HM.out))) : wr.heap.size ≤ gb118)); have n5_ := a0_ ((by rw [hg]; exact Nat.ne_of_lt (blk_lt (g := gb114) (o := .cells #[.int .i64 x115000_2, .int .i64 x115001_2, .int .i64 x115002_2] 30 (0, 0)) (by exact BK114.out)) : gb114 ≠ gb118)); have n6_ := a0_ ((by rw [hg]; exact Nat.ne_of_gt (blk_lt (g := gb114) (o := .cells #[.int .i64 x115000_2, .int .i64 x115001_2, .int .i64 x115002_2] 30 (0, 0)) (by exact BK114.out)) : gb118 ≠ gb114)); clear BK114; clear HB HM; have BK114 := n0_; have HB := n1_; have HM := m1_; have BK118 := n2_; have GW118 := n3_; have GE118 := n4_; have GM118 := m4_; have NB114_118 := n5_; have NB118_114 := n6_; clear n0_ n1_ n2_ n3_ n4_ n5_ n6_ m1_ m4_; clear hb hbox hg; have hnb37 := NB118_114.out; have hnc37 := NB114_118.out; have hcz38_0 : w36.cell? ⟨gb118, 0, none⟩ = some (.int .i64 0) := (blk_cell BK118.out 0).trans rfl; have hcz38_1 : w36.cell? ⟨gb118, 1, none⟩ = some (.int .i64 0) := (blk_cell BK118.out 1).trans rfl; have hcz38_2 : w36.cell? ⟨gb118, 2, none⟩ = some (.int .i64 0) := (blk_cell BK118.out 2).trans rfl; have hcz38_3 : w36.cell? ⟨gb118, 3, none⟩ = some (.string (⟨#[]⟩ : ByteArray)) := (blk_cell BK118.out 3).trans rfl; have hfz38_0 := kF_ BK118.out 0; have hfz38_1 := kF_ BK118.out 1; have hfz38_2 := kF_ BK118.out 2; have hfz38_3 := kF_ BK118.out 3))
             have n0_ : Aside0 (((((w36.setCell ⟨gb118, 0, none⟩ (.int .i64 ((rd_T34 l1 x39_2).f0))).setCell ⟨gb118, 1, none⟩ (.int .i64 ((rd_T34 l1 x39_2).f1))).setCell ⟨gb118, 2, none⟩ (.int .i64 ((rd_T34 l1 x39_2).f2))).setCell ⟨gb118, 3, none⟩ (.string ((rd_T34 l1 x39_2).f3))).heap[gb114]? = some (.cells #[.int .i64 x115000_2, .int .i64 x115001_2, .int .i64 x115002_2] 30 (0, 0))) := ⟨by (with_reducible repeat (first | refine kN_ ?_ _ | refine kD_ ?_ | refine kA_ ?_ _)); refine blk_far ?_ NB114_118.out _; (with_reducible repeat (first | refine kN_ ?_ _ | refine kD_ ?_ | refine kA_ ?_ _)); refine blk_far ?_ NB114_118.out _; (with_reducible repeat (first | refine kN_ ?_ _ | refine kD_ ?_ | refine kA_ ?_ _)); refine blk_far ?_ NB114_118.out _; (with_reducible repeat (first | refine kN_ ?_ _ | refine kD_ ?_ | refine kA_ ?_ _)); refine blk_far ?_ NB114_118.out _; (with_reducible repeat (first | refine kN_ ?_ _ | refine kD_ ?_ | refine kA_ ?_ _)); exact BK114.out⟩
             have n1_ : Aside0 (((((w36.setCell ⟨gb118, 0, none⟩ (.int .i64 ((rd_T34 l1 x39_2).f0))).setCell ⟨gb118, 1, none⟩ (.int .i64 ((rd_T34 l1 x39_2).f1))).setCell ⟨gb118, 2, none⟩ (.int .i64 ((rd_T34 l1 x39_2).f2))).setCell ⟨gb118, 3, none⟩ (.string ((rd_T34 l1 x39_2).f3))).heap[gb118]? = some (.cells #[.int .i64 ((rd_T34 l1 x39_2).f0), .int .i64 ((rd_T34 l1 x39_2).f1), .int .i64 ((rd_T34 l1 x39_2).f2), .string ((rd_T34 l1 x39_2).f3)] 34 (0, 0))) := ⟨by refine blk_put (cs := #[.int .i64 ((rd_T34 l1 x39_2).f0), .int .i64 ((rd_T34 l1 x39_2).f1), .int .i64 ((rd_T34 l1 x39_2).f2), .string (⟨#[]⟩ : ByteArray)]) ?_ 3 _ rfl; refine blk_put (cs := #[.int .i64 ((rd_T34 l1 x39_2).f0), .int .i64 ((rd_T34 l1 x39_2).f1), .int .i64 0, .string (⟨#[]⟩ : ByteArray)]) ?_ 2 _ rfl; refine blk_put (cs := #[.int .i64 ((rd_T34 l1 x39_2).f0), .int .i64 0, .int .i64 0, .string (⟨#[]⟩ : ByteArray)]) ?_ 1 _ rfl; refine blk_put (cs := #[.int .i64 0, .int .i64 0, .int .i64 0, .string (⟨#[]⟩ : ByteArray)]) ?_ 0 _ rfl; exact BK118.out⟩
             have n2_ : Aside0 (Below w.heap.size w ((((w36.setCell ⟨gb118, 0, none⟩ (.int .i64 ((rd_T34 l1 x39_2).f0))).setCell ⟨gb118, 1, none⟩ (.int .i64 ((rd_T34 l1 x39_2).f1))).setCell ⟨gb118, 2, none⟩ (.int .i64 ((rd_T34 l1 x39_2).f2))).setCell ⟨gb118, 3, none⟩ (.string ((rd_T34 l1 x39_2).f3)))) := ⟨by repeat (first | (with_reducible first | exact HB.out | apply bA_ | apply bN_ | apply bD_ | refine bS_ ?_ GE114.out | refine bS_ ?_ GE118.out) | exact HB.out)⟩
             have m2_ : Aside0 (Below wr.heap.size wr ((((w36.setCell ⟨gb118, 0, none⟩ (.int .i64 ((rd_T34 l1 x39_2).f0))).setCell ⟨gb118, 1, none⟩ (.int .i64 ((rd_T34 l1 x39_2).f1))).setCell ⟨gb118, 2, none⟩ (.int .i64 ((rd_T34 l1 x39_2).f2))).setCell ⟨gb118, 3, none⟩ (.string ((rd_T34 l1 x39_2).f3)))) := ⟨by repeat (first | (with_reducible first | exact HM.out | apply bA_ | apply bN_ | apply bD_ | refine bS_ ?_ GM118.out) | exact HM.out)⟩
             generalize ((((w36.setCell ⟨gb118, 0, none⟩ (.int .i64 ((rd_T34 l1 x39_2).f0))).setCell ⟨gb118, 1, none⟩ (.int .i64 ((rd_T34 l1 x39_2).f1))).setCell ⟨gb118, 2, none⟩ (.int .i64 ((rd_T34 l1 x39_2).f2))).setCell ⟨gb118, 3, none⟩ (.string ((rd_T34 l1 x39_2).f3))) = w39 at n0_ n1_ n2_ m2_ ⊢
             have BK114 := n0_
             have BK118 := n1_
             have HB := n2_; have HM := m2_
             clear n0_ n1_ n2_ m2_
             have n0_ := a0_ (kD_ BK114.out)
             have n1_ := a0_ (kD_ BK118.out)
             have n2_ := a0_ (bD_ HB.out)
             have m2_ := a0_ (bD_ HM.out)
             clear BK114
             clear BK118
             clear HB HM
             have BK114 := n0_
             have BK118 := n1_
             have HB := n2_; have HM := m2_
             clear n0_ n1_ n2_ m2_
             have p119 : 0 ≤ ((ji32) : Int) := od_ (by assumption)
             have q119 : (ji32) < (l1.length : Int) := od_ (by assumption)
             obtain ⟨ad119, e119, hx119_0, hx119_1, hx119_2, hx119_3⟩ := at_T34 HR1.out (ji32) p119 q119
             have hw119_3 := hx119_3
             have hw119_2 := hx119_2
             have hw119_1 := hx119_1
             have hw119_0 := hx119_0
             obtain rfl : ad117 = ad119 := (by injection e119)
             replace hx119_0 := (HB.out.cell (bl_ w _ hx119_0)).trans hx119_0
             replace hx119_1 := (HB.out.cell (bl_ w _ hx119_1)).trans hx119_1
             replace hx119_2 := (HB.out.cell (bl_ w _ hx119_2)).trans hx119_2
             replace hx119_3 := (HB.out.cell (bl_ w _ hx119_3)).trans hx119_3
             replace p119 := eq_true p119
             replace q119 := eq_true q119
             refine start_ (n := 13) (S := fun w' => w'.cell? ⟨gb118, 0, none⟩ = some (.int .i64 ((rd_T34 l1 x39_2).f0)) ∧ w'.cell? ⟨gb118, 1, none⟩ = some (.int .i64 ((rd_T34 l1 x39_2).f1)) ∧ w'.cell? ⟨gb118, 2, none⟩ = some (.int .i64 ((rd_T34 l1 x39_2).f2)) ∧ w'.cell? ⟨gb118, 3, none⟩ = some (.string ((rd_T34 l1 x39_2).f3)) ∧ w'.cell? (ad117.add (((ji32)).toNat * 4)) = some (.int .i64 ((rd_T34 l1 (ji32)).f0)) ∧ w'.cell? ⟨(ad117.add (((ji32)).toNat * 4)).block, (ad117.add (((ji32)).toNat * 4)).off + 1, none⟩ = some (.int .i64 ((rd_T34 l1 (ji32)).f1)) ∧ w'.cell? ⟨(ad117.add (((ji32)).toNat * 4)).block, (ad117.add (((ji32)).toNat * 4)).off + 2, none⟩ = some (.int .i64 ((rd_T34 l1 (ji32)).f2)) ∧ w'.cell? ⟨(ad117.add (((ji32)).toNat * 4)).block, (ad117.add (((ji32)).toNat * 4)).off + 3, none⟩ = some (.string ((rd_T34 l1 (ji32)).f3))) (ds := []) #[false, false, false, false, false, false, false, false, false, false, false, false, false] (by kernel_rfl) rfl rfl ⟨(blk_cell BK118.out 0).trans rfl, (blk_cell BK118.out 1).trans rfl, (blk_cell BK118.out 2).trans rfl, (blk_cell BK118.out 3).trans rfl, ((HB.out.cell (bl_ w _ hw119_0)).trans hw119_0), ((HB.out.cell (bl_ w _ hw119_1)).trans hw119_1), ((HB.out.cell (bl_ w _ hw119_2)).trans hw119_2), ((HB.out.cell (bl_ w _ hw119_3)).trans hw119_3)⟩ (fun hHeld => ?_); refine with_tabW trial_edits.tab11 trial_edits.bits11 (fun HT_ HW_ => ?_)
             generalize w39.drew = w40 at BK114 BK118 HB HM hx119_0 hx119_1 hx119_2 hx119_3 hHeld ⊢
             refine pure_ (i := 0) (N := some 44) #[true, false, false, false, false, false, false, false, false, false, false, false, false] rfl rfl (any_of HT_.out (by kernel_rfl)) (fun _ _ _ h => h) (Or.inl ⟨by rfl, fun w' => by go_simp; with_reducible rfl⟩) (by simp only [ps_]; rfl) ?_
             refine pure_ (i := 1) (N := some 45) #[true, true, false, false, false, false, false, false, false, false, false, false, false] rfl rfl (any_of HT_.out (by kernel_rfl)) (fun _ _ _ h => h) (Or.inl ⟨by rfl, fun w' => by go_simp; with_reducible rfl⟩) (by simp only [ps_]; rfl) ?_
             refine pure_ (i := 2) (N := some 46) #[true, true, true, false, false, false, false, false, false, false, false, false, false] rfl rfl (any_of HT_.out (by kernel_rfl)) (fun _ _ _ h => h) (Or.inl ⟨by rfl, fun w' => by go_simp; with_reducible rfl⟩) (by simp only [ps_]; rfl) ?_
             refine pure_ (i := 3) (N := some 47) #[true, true, true, true, false, false, false, false, false, false, false, false, false] rfl rfl (any_of HT_.out (by kernel_rfl)) (fun _ _ _ h => h) (Or.inl ⟨by rfl, fun w' => by go_simp; with_reducible rfl⟩) (by simp only [ps_]; rfl) ?_
             refine pure_ (i := 5) (N := some 49) #[true, true, true, true, false, true, false, false, false, false, false, false, false] rfl rfl (any_of HT_.out (by kernel_rfl)) (fun _ _ _ h => h) (Or.inl ⟨by rfl, fun w' => by go_simp; with_reducible rfl⟩) (by simp only [ps_]; rfl) ?_
             refine pure_ (i := 6) (N := some 50) #[true, true, true, true, false, true, true, false, false, false, false, false, false] rfl rfl (any_of HT_.out (by kernel_rfl)) (fun _ _ _ h => h) (Or.inl ⟨by rfl, fun w' => by go_simp; with_reducible rfl⟩) (by simp only [ps_]; rfl) ?_
             refine pure_ (i := 7) (N := some 51) #[true, true, true, true, false, true, true, true, false, false, false, false, false] rfl rfl (any_of HT_.out (by kernel_rfl)) (fun _ _ _ h => h) (Or.inl ⟨by rfl, fun w' => by go_simp; with_reducible rfl⟩) (by simp only [ps_]; rfl) ?_
             refine pure_ (i := 8) (N := some 52) #[true, true, true, true, false, true, true, true, true, false, false, false, false] rfl rfl (any_of HT_.out (by kernel_rfl)) (fun _ _ _ h => h) (Or.inl ⟨by rfl, fun w' => by go_simp; with_reducible rfl⟩) (by simp only [ps_]; rfl) ?_
             refine pure_ (i := 9) (N := some 53) #[true, true, true, true, false, true, true, true, true, true, false, false, false] rfl rfl (any_of HT_.out (by kernel_rfl)) (fun _ _ _ h => h) (Or.inl ⟨by rfl, fun w' => by go_simp; with_reducible rfl⟩) (by simp only [ps_]; rfl) ?_
             refine take_ (i := 4) (N := some 48) (v := ?_) (a' := ?_) #[true, true, true, true, true, true, true, true, true, true, false, false, false] rfl rfl (take_ofW HT_.out HW_.out (by kernel_rfl)) (fun _ _ _ h => h) (Or.inl ⟨by rfl, ?_⟩) hHeld ?_ ?_
             rotate_left
             ·rintro w' ⟨s0, s1, s2, s3, s4, s5, s6, s7⟩
              go_simp
              with_reducible rfl
             rotate_left
             ·simp only [ps_]
              rfl
             refine take_ (i := 10) (N := some 54) (v := ?_) (a' := ?_) #[true, true, true, true, true, true, true, true, true, true, true, false, false] rfl rfl (take_ofW HT_.out HW_.out (by kernel_rfl)) (fun _ _ _ h => h) (Or.inl ⟨by rfl, ?_⟩) hHeld ?_ ?_
             rotate_left
             ·rintro w' ⟨s0, s1, s2, s3, s4, s5, s6, s7⟩
              go_simp
              with_reducible rfl
             rotate_left
             ·simp only [ps_]
              rfl
             refine pure_ (i := 11) (N := some 55) #[true, true, true, true, true, true, true, true, true, true, true, true, false] rfl rfl (any_of HT_.out (by kernel_rfl)) (fun _ _ _ h => h) (Or.inl ⟨by rfl, fun w' => by go_simp; with_reducible rfl⟩) (by simp only [ps_]; rfl) ?_
             refine pure_ (i := 12) (N := some 56) #[true, true, true, true, true, true, true, true, true, true, true, true, true] rfl rfl (any_of HT_.out (by kernel_rfl)) (fun _ _ _ h => h) (Or.inl ⟨by rfl, fun w' => by go_simp; with_reducible rfl⟩) (by simp only [ps_]; rfl) ?_
             refine done_ (done_of HT_.out (by kernel_rfl)) ?_
             try go_wp2
             have n0_ := a0_ (kD_ BK114.out)
             have n1_ := a0_ (kD_ BK118.out)
             have n2_ := a0_ (bD_ HB.out)
             have m2_ := a0_ (bD_ HM.out)
             clear BK114
             clear BK118
             clear HB HM
             have BK114 := n0_
             have BK118 := n1_
             have HB := n2_; have HM := m2_
             clear n0_ n1_ n2_ m2_
             refine start_ (n := 7) (S := fun w' => w'.cell? ⟨gb118, 0, none⟩ = some (.int .i64 ((rd_T34 l1 x39_2).f0)) ∧ w'.cell? ⟨gb118, 1, none⟩ = some (.int .i64 ((rd_T34 l1 x39_2).f1)) ∧ w'.cell? ⟨gb118, 2, none⟩ = some (.int .i64 ((rd_T34 l1 x39_2).f2)) ∧ w'.cell? ⟨gb118, 3, none⟩ = some (.string ((rd_T34 l1 x39_2).f3))) (ds := []) #[false, false, false, false, false, false, false] (by kernel_rfl) rfl rfl ⟨(blk_cell BK118.out 0).trans rfl, (blk_cell BK118.out 1).trans rfl, (blk_cell BK118.out 2).trans rfl, (blk_cell BK118.out 3).trans rfl⟩ (fun hHeld => ?_)
             generalize w40.drew = w41 at BK114 BK118 HB HM hHeld ⊢
             refine pure_ (i := 0) (N := some 57) #[true, false, false, false, false, false, false] rfl rfl (by kernel_rfl) (fun _ _ _ h => h) (Or.inl ⟨by rfl, fun w' => by go_simp; with_reducible rfl⟩) (by simp only [ps_]; rfl) ?_
             refine pure_ (i := 2) (N := some 59) #[true, false, true, false, false, false, false] rfl rfl (by kernel_rfl) (fun _ _ _ h => h) (Or.inl ⟨by rfl, fun w' => by go_simp; with_reducible rfl⟩) (by simp only [ps_]; rfl) ?_
             refine pure_ (i := 5) (N := some 4) #[true, false, true, false, false, true, false] rfl rfl (by kernel_rfl) (fun _ _ _ h => h) (Or.inl ⟨by rfl, fun w' => by go_simp; with_reducible rfl⟩) (by simp only [ps_]; rfl) ?_
             refine take_ (i := 1) (N := some 58) (v := ?_) (a' := ?_) #[true, true, true, false, false, true, false] rfl rfl (by kernel_rfl) (fun _ _ _ h => h) (Or.inl ⟨by rfl, ?_⟩) hHeld ?_ ?_
             rotate_left
             ·rintro w' ⟨s0, s1, s2, s3⟩
              go_simp
              with_reducible rfl
             rotate_left
             ·simp only [ps_]
              rfl
             refine take_ (i := 3) (N := some 60) (v := ?_) (a' := ?_) #[true, true, true, true, false, true, false] rfl rfl (by kernel_rfl) (fun _ _ _ h => h) (Or.inl ⟨by rfl, ?_⟩) hHeld ?_ ?_
             rotate_left
             ·rintro w' ⟨s0, s1, s2, s3⟩
              go_simp
              with_reducible rfl
             rotate_left
             ·simp only [ps_]
              rfl
             refine pure_ (i := 4) (N := some 61) #[true, true, true, true, true, true, false] rfl rfl (by kernel_rfl) (fun _ _ _ h => h) (Or.inl ⟨by rfl, fun w' => by go_simp; with_reducible rfl⟩) (by simp only [ps_]; rfl) ?_
             refine one_ (i := 6) (N := none) #[true, true, true, true, true, true, true] rfl rfl (by kernel_rfl) (by decide) (fun K hK => ?_)
             have hs42 : w41.cell? ⟨gb114, 0, none⟩ = some (.int .i64 x115000_2) := (blk_cell BK114.out 0).trans rfl
             have hfs42 := kF_ BK114.out 0
             have hns42_1 := NB118_114.out
             have hms42_1 := NB114_118.out
             have hs43 : w41.cell? ⟨gb114, 1, none⟩ = some (.int .i64 x115001_2) := (blk_cell BK114.out 1).trans rfl
             have hfs43 := kF_ BK114.out 1
             have hns43_1 := NB118_114.out
             have hms43_1 := NB114_118.out
             have hs44 : w41.cell? ⟨gb114, 2, none⟩ = some (.int .i64 x115002_2) := (blk_cell BK114.out 2).trans rfl
             have hfs44 := kF_ BK114.out 2
             have hns44_1 := NB118_114.out
             have hms44_1 := NB114_118.out
             refine skip_ (w1 := ?_) (by rfl) rfl ?_ ?_
             rotate_left
             ·go_simp
              rfl
             refine hK.out _ _ ⟨((cell_far (p := ⟨gb114, _, none⟩) NB118_114.out _).trans (((cell_far (p := ⟨gb114, _, none⟩) NB118_114.out _).trans (((cell_far (p := ⟨gb114, _, none⟩) NB118_114.out _).trans (hHeld.1)))))), ((cell_far (p := ⟨gb114, _, none⟩) NB118_114.out _).trans (((cell_far (p := ⟨gb114, _, none⟩) NB118_114.out _).trans (((cell_far (p := ⟨gb114, _, none⟩) NB118_114.out _).trans (hHeld.2.1)))))), ((cell_far (p := ⟨gb114, _, none⟩) NB118_114.out _).trans (((cell_far (p := ⟨gb114, _, none⟩) NB118_114.out _).trans (((cell_far (p := ⟨gb114, _, none⟩) NB118_114.out _).trans (hHeld.2.2.1)))))), ((cell_far (p := ⟨gb114, _, none⟩) NB118_114.out _).trans (((cell_far (p := ⟨gb114, _, none⟩) NB118_114.out _).trans (((cell_far (p := ⟨gb114, _, none⟩) NB118_114.out _).trans (hHeld.2.2.2))))))⟩ (fun hHeld => ?_)
             clear hK K
             refine done_ (by kernel_rfl) ?_
             try go_wp2
             refine bodyPost_ret (results_tc rfl _ _ gb114 30 #[.int .i64 3, .int .i64 ((rd_T34 l1 x39_2).f0), .int .i64 ((rd_T34 l1 x39_2).f1)] (0, 0) _ rfl (by (with_reducible repeat (first | refine kN_ ?_ _ | refine kD_ ?_ | refine kA_ ?_ _)); refine blk_put (cs := #[.int .i64 3, .int .i64 ((rd_T34 l1 x39_2).f0), .int .i64 x115002_2]) ?_ 2 _ rfl; (with_reducible repeat (first | refine kN_ ?_ _ | refine kD_ ?_ | refine kA_ ?_ _)); refine blk_put (cs := #[.int .i64 3, .int .i64 x115001_2, .int .i64 x115002_2]) ?_ 1 _ rfl; (with_reducible repeat (first | refine kN_ ?_ _ | refine kD_ ?_ | refine kA_ ?_ _)); refine blk_put (cs := #[.int .i64 x115000_2, .int .i64 x115001_2, .int .i64 x115002_2]) ?_ 0 _ rfl; (with_reducible repeat (first | refine kN_ ?_ _ | refine kD_ ?_ | refine kA_ ?_ _)); exact BK114.out) Try.underlying30 rfl (by kernel_rfl)) rfl ?_
             exact ⟨_, by first | rfl | (simp [errW_none, errW_some] <;> rfl) | (simp only [← hji32]; first | rfl | (simp [errW_none, errW_some] <;> rfl)) | (simp [*, errW_none, errW_some] <;> rfl), by repeat (first | (with_reducible first | exact HB.out | apply bA_ | apply bN_ | apply bD_ | refine bS_ ?_ GE114.out | refine bS_ ?_ GE118.out) | exact HB.out), fun h_ => absurd h_ (by decide)⟩
            ·rw [if_neg c35] at H
             have c35b0 := decide_eq_false c35
             clear c35
             by_cases c45 : ([] : List (S58)).length < 4398046511104
             ·rw [if_pos c45] at H
              have LMc45 := a0_ c45
              clear c45
              obtain ⟨y120, hy120⟩ : ∃ y_ : List (S58), y_ = (([] : List (S58)) ++ [(⟨(rd_T34 l1 x39_2).f1, (rd_T34 l1 x39_2).f2, (rd_T34 l1 x39_2).f3⟩ : S58)]) := ⟨_, rfl⟩
              replace H : (trial_edits.l1 k2 l0 l1 l1 l1 (l1.length : Int) (wrap64 (x39_2 + 1))) = some (r1, r2, r3, r4) := by first | (rw [hy120]; with_reducible exact H) | (have H2_ := (Option.bind_some _ _).symm.trans H; rw [hy120]; with_reducible exact H2_) | (have H2_ := (Option.bind_some _ _).symm.trans H; with_reducible exact H2_) | with_reducible exact H | (rw [hy120]; exact H) | exact H
              have Ny120 := a0_ hy120
              clear hy120
              have H' := a0_ H
              clear H
              have p117 : 0 ≤ (x39_2 : Int) := od_ (by assumption)
              have q117 : x39_2 < (l1.length : Int) := od_ (by assumption)
              obtain ⟨ad117, e117, hx117_0, hx117_1, hx117_2, hx117_3⟩ := at_T34 HR1.out x39_2 p117 q117
              cases e117
              replace hx117_0 := (HB.out.cell (bl_ w _ hx117_0)).trans hx117_0
              replace hx117_1 := (HB.out.cell (bl_ w _ hx117_1)).trans hx117_1
              replace hx117_2 := (HB.out.cell (bl_ w _ hx117_2)).trans hx117_2
              replace hx117_3 := (HB.out.cell (bl_ w _ hx117_3)).trans hx117_3
              replace p117 := eq_true p117
              replace q117 := eq_true q117
              try go_wp2_with (first | ((with_reducible refine gate_dst (N := 10) rfl ?_); (try (refine gate_guard (by rfl) ?_; dsimp only)); refine box_event ?hg (N := 10) ?hd (cs := #[.int .i64 0, .int .i64 0, .int .i64 0, .string (⟨#[]⟩ : ByteArray)]) (t := 34) ?hr ?_; (case hd => rfl); (case hg => rfl); (case hr => first | (go_simp; done) | (go_simp; rfl)); intro gb118 hg w46 hbox hb; have n0_ := a0_ (kB_ (g := gb114) (o := .cells #[.int .i64 x115000_2, .int .i64 x115001_2, .int .i64 x115002_2] 30 (0, 0)) (by exact BK114.out) hb); have n1_ := a0_ (bT_ (by exact HB.out) hb); have m1_ := a0_ (bT_ (by repeat (first | (with_reducible first | exact HM.out | apply bA_ | apply bN_ | apply bD_) | exact HM.out)) hb); have n2_ := a0_ (hbox); have n3_ := a0_ ((by rw [hg]; exact (bZ_ (by exact HB.out)) : w.heap.size ≤ gb118)); have n4_ := a0_ ((by rw [hg]; exact (bZ_ (by exact HB.out)) : w.heap.size ≤ gb118)); have m4_ := a0_ ((by rw [hg]; exact (bZ_ (by repeat (first | (with_reducible first | exact HM.out | apply bA_ | apply bN_ | apply bD_) | exact HM.out))) : wr.heap.size ≤ gb118)); have n5_ := a0_ ((by rw [hg]; exact Nat.ne_of_lt (blk_lt (g := gb114) (o := .cells #[.int .i64 x115000_2, .int .i64 x115001_2, .int .i64 x115002_2] 30 (0, 0)) (by exact BK114.out)) : gb114 ≠ gb118)); have n6_ := a0_ ((by rw [hg]; exact Nat.ne_of_gt (blk_lt (g := gb114) (o := .cells #[.int .i64 x115000_2, .int .i64 x115001_2, .int .i64 x115002_2] 30 (0, 0)) (by exact BK114.out)) : gb118 ≠ gb114)); clear BK114; clear HB HM; have BK114 := n0_; have HB := n1_; have HM := m1_; have BK118 := n2_; have GW118 := n3_; have GE118 := n4_; have GM118 := m4_; have NB114_118 := n5_; have NB118_114 := n6_; clear n0_ n1_ n2_ n3_ n4_ n5_ n6_ m1_ m4_; clear hb hbox hg; have hnb47 := NB118_114.out; have hnc47 := NB114_118.out; have hcz48_0 : w46.cell? ⟨gb118, 0, none⟩ = some (.int .i64 0) := (blk_cell BK118.out 0).trans rfl; have hcz48_1 : w46.cell? ⟨gb118, 1, none⟩ = some (.int .i64 0) := (blk_cell BK118.out 1).trans rfl; have hcz48_2 : w46.cell? ⟨gb118, 2, none⟩ = some (.int .i64 0) := (blk_cell BK118.out 2).trans rfl; have hcz48_3 : w46.cell? ⟨gb118, 3, none⟩ = some (.string (⟨#[]⟩ : ByteArray)) := (blk_cell BK118.out 3).trans rfl; have hfz48_0 := kF_ BK118.out 0; have hfz48_1 := kF_ BK118.out 1; have hfz48_2 := kF_ BK118.out 2; have hfz48_3 := kF_ BK118.out 3))
              have n0_ : Aside0 (((((w46.setCell ⟨gb118, 0, none⟩ (.int .i64 ((rd_T34 l1 x39_2).f0))).setCell ⟨gb118, 1, none⟩ (.int .i64 ((rd_T34 l1 x39_2).f1))).setCell ⟨gb118, 2, none⟩ (.int .i64 ((rd_T34 l1 x39_2).f2))).setCell ⟨gb118, 3, none⟩ (.string ((rd_T34 l1 x39_2).f3))).heap[gb114]? = some (.cells #[.int .i64 x115000_2, .int .i64 x115001_2, .int .i64 x115002_2] 30 (0, 0))) := ⟨by (with_reducible repeat (first | refine kN_ ?_ _ | refine kD_ ?_ | refine kA_ ?_ _)); refine blk_far ?_ NB114_118.out _; (with_reducible repeat (first | refine kN_ ?_ _ | refine kD_ ?_ | refine kA_ ?_ _)); refine blk_far ?_ NB114_118.out _; (with_reducible repeat (first | refine kN_ ?_ _ | refine kD_ ?_ | refine kA_ ?_ _)); refine blk_far ?_ NB114_118.out _; (with_reducible repeat (first | refine kN_ ?_ _ | refine kD_ ?_ | refine kA_ ?_ _)); refine blk_far ?_ NB114_118.out _; (with_reducible repeat (first | refine kN_ ?_ _ | refine kD_ ?_ | refine kA_ ?_ _)); exact BK114.out⟩
              have n1_ : Aside0 (((((w46.setCell ⟨gb118, 0, none⟩ (.int .i64 ((rd_T34 l1 x39_2).f0))).setCell ⟨gb118, 1, none⟩ (.int .i64 ((rd_T34 l1 x39_2).f1))).setCell ⟨gb118, 2, none⟩ (.int .i64 ((rd_T34 l1 x39_2).f2))).setCell ⟨gb118, 3, none⟩ (.string ((rd_T34 l1 x39_2).f3))).heap[gb118]? = some (.cells #[.int .i64 ((rd_T34 l1 x39_2).f0), .int .i64 ((rd_T34 l1 x39_2).f1), .int .i64 ((rd_T34 l1 x39_2).f2), .string ((rd_T34 l1 x39_2).f3)] 34 (0, 0))) := ⟨by refine blk_put (cs := #[.int .i64 ((rd_T34 l1 x39_2).f0), .int .i64 ((rd_T34 l1 x39_2).f1), .int .i64 ((rd_T34 l1 x39_2).f2), .string (⟨#[]⟩ : ByteArray)]) ?_ 3 _ rfl; refine blk_put (cs := #[.int .i64 ((rd_T34 l1 x39_2).f0), .int .i64 ((rd_T34 l1 x39_2).f1), .int .i64 0, .string (⟨#[]⟩ : ByteArray)]) ?_ 2 _ rfl; refine blk_put (cs := #[.int .i64 ((rd_T34 l1 x39_2).f0), .int .i64 0, .int .i64 0, .string (⟨#[]⟩ : ByteArray)]) ?_ 1 _ rfl; refine blk_put (cs := #[.int .i64 0, .int .i64 0, .int .i64 0, .string (⟨#[]⟩ : ByteArray)]) ?_ 0 _ rfl; exact BK118.out⟩
              have n2_ : Aside0 (Below w.heap.size w ((((w46.setCell ⟨gb118, 0, none⟩ (.int .i64 ((rd_T34 l1 x39_2).f0))).setCell ⟨gb118, 1, none⟩ (.int .i64 ((rd_T34 l1 x39_2).f1))).setCell ⟨gb118, 2, none⟩ (.int .i64 ((rd_T34 l1 x39_2).f2))).setCell ⟨gb118, 3, none⟩ (.string ((rd_T34 l1 x39_2).f3)))) := ⟨by repeat (first | (with_reducible first | exact HB.out | apply bA_ | apply bN_ | apply bD_ | refine bS_ ?_ GE114.out | refine bS_ ?_ GE118.out) | exact HB.out)⟩
              have m2_ : Aside0 (Below wr.heap.size wr ((((w46.setCell ⟨gb118, 0, none⟩ (.int .i64 ((rd_T34 l1 x39_2).f0))).setCell ⟨gb118, 1, none⟩ (.int .i64 ((rd_T34 l1 x39_2).f1))).setCell ⟨gb118, 2, none⟩ (.int .i64 ((rd_T34 l1 x39_2).f2))).setCell ⟨gb118, 3, none⟩ (.string ((rd_T34 l1 x39_2).f3)))) := ⟨by repeat (first | (with_reducible first | exact HM.out | apply bA_ | apply bN_ | apply bD_ | refine bS_ ?_ GM118.out) | exact HM.out)⟩
              generalize ((((w46.setCell ⟨gb118, 0, none⟩ (.int .i64 ((rd_T34 l1 x39_2).f0))).setCell ⟨gb118, 1, none⟩ (.int .i64 ((rd_T34 l1 x39_2).f1))).setCell ⟨gb118, 2, none⟩ (.int .i64 ((rd_T34 l1 x39_2).f2))).setCell ⟨gb118, 3, none⟩ (.string ((rd_T34 l1 x39_2).f3))) = w49 at n0_ n1_ n2_ m2_ ⊢
              have BK114 := n0_
              have BK118 := n1_
              have HB := n2_; have HM := m2_
              clear n0_ n1_ n2_ m2_
              have n0_ := a0_ (kD_ BK114.out)
              have n1_ := a0_ (kD_ BK118.out)
              have n2_ := a0_ (bD_ HB.out)
              have m2_ := a0_ (bD_ HM.out)
              clear BK114
              clear BK118
              clear HB HM
              have BK114 := n0_
              have BK118 := n1_
              have HB := n2_; have HM := m2_
              clear n0_ n1_ n2_ m2_
              have p119 : 0 ≤ ((ji32) : Int) := od_ (by assumption)
              have q119 : (ji32) < (l1.length : Int) := od_ (by assumption)
              obtain ⟨ad119, e119, hx119_0, hx119_1, hx119_2, hx119_3⟩ := at_T34 HR1.out (ji32) p119 q119
              have hw119_3 := hx119_3
              have hw119_2 := hx119_2
              have hw119_1 := hx119_1
              have hw119_0 := hx119_0
              obtain rfl : ad117 = ad119 := (by injection e119)
              replace hx119_0 := (HB.out.cell (bl_ w _ hx119_0)).trans hx119_0
              replace hx119_1 := (HB.out.cell (bl_ w _ hx119_1)).trans hx119_1
              replace hx119_2 := (HB.out.cell (bl_ w _ hx119_2)).trans hx119_2
              replace hx119_3 := (HB.out.cell (bl_ w _ hx119_3)).trans hx119_3
              replace p119 := eq_true p119
              replace q119 := eq_true q119
              refine start_ (n := 13) (S := fun w' => w'.cell? ⟨gb118, 0, none⟩ = some (.int .i64 ((rd_T34 l1 x39_2).f0)) ∧ w'.cell? ⟨gb118, 1, none⟩ = some (.int .i64 ((rd_T34 l1 x39_2).f1)) ∧ w'.cell? ⟨gb118, 2, none⟩ = some (.int .i64 ((rd_T34 l1 x39_2).f2)) ∧ w'.cell? ⟨gb118, 3, none⟩ = some (.string ((rd_T34 l1 x39_2).f3)) ∧ w'.cell? (ad117.add (((ji32)).toNat * 4)) = some (.int .i64 ((rd_T34 l1 (ji32)).f0)) ∧ w'.cell? ⟨(ad117.add (((ji32)).toNat * 4)).block, (ad117.add (((ji32)).toNat * 4)).off + 1, none⟩ = some (.int .i64 ((rd_T34 l1 (ji32)).f1)) ∧ w'.cell? ⟨(ad117.add (((ji32)).toNat * 4)).block, (ad117.add (((ji32)).toNat * 4)).off + 2, none⟩ = some (.int .i64 ((rd_T34 l1 (ji32)).f2)) ∧ w'.cell? ⟨(ad117.add (((ji32)).toNat * 4)).block, (ad117.add (((ji32)).toNat * 4)).off + 3, none⟩ = some (.string ((rd_T34 l1 (ji32)).f3))) (ds := []) #[false, false, false, false, false, false, false, false, false, false, false, false, false] (by kernel_rfl) rfl rfl ⟨(blk_cell BK118.out 0).trans rfl, (blk_cell BK118.out 1).trans rfl, (blk_cell BK118.out 2).trans rfl, (blk_cell BK118.out 3).trans rfl, ((HB.out.cell (bl_ w _ hw119_0)).trans hw119_0), ((HB.out.cell (bl_ w _ hw119_1)).trans hw119_1), ((HB.out.cell (bl_ w _ hw119_2)).trans hw119_2), ((HB.out.cell (bl_ w _ hw119_3)).trans hw119_3)⟩ (fun hHeld => ?_); refine with_tabW trial_edits.tab11 trial_edits.bits11 (fun HT_ HW_ => ?_)
              generalize w49.drew = w50 at BK114 BK118 HB HM hx119_0 hx119_1 hx119_2 hx119_3 hHeld ⊢
              refine pure_ (i := 0) (N := some 44) #[true, false, false, false, false, false, false, false, false, false, false, false, false] rfl rfl (any_of HT_.out (by kernel_rfl)) (fun _ _ _ h => h) (Or.inl ⟨by rfl, fun w' => by go_simp; with_reducible rfl⟩) (by simp only [ps_]; rfl) ?_
              refine pure_ (i := 1) (N := some 45) #[true, true, false, false, false, false, false, false, false, false, false, false, false] rfl rfl (any_of HT_.out (by kernel_rfl)) (fun _ _ _ h => h) (Or.inl ⟨by rfl, fun w' => by go_simp; with_reducible rfl⟩) (by simp only [ps_]; rfl) ?_
              refine pure_ (i := 2) (N := some 46) #[true, true, true, false, false, false, false, false, false, false, false, false, false] rfl rfl (any_of HT_.out (by kernel_rfl)) (fun _ _ _ h => h) (Or.inl ⟨by rfl, fun w' => by go_simp; with_reducible rfl⟩) (by simp only [ps_]; rfl) ?_
              refine pure_ (i := 3) (N := some 47) #[true, true, true, true, false, false, false, false, false, false, false, false, false] rfl rfl (any_of HT_.out (by kernel_rfl)) (fun _ _ _ h => h) (Or.inl ⟨by rfl, fun w' => by go_simp; with_reducible rfl⟩) (by simp only [ps_]; rfl) ?_
              refine pure_ (i := 5) (N := some 49) #[true, true, true, true, false, true, false, false, false, false, false, false, false] rfl rfl (any_of HT_.out (by kernel_rfl)) (fun _ _ _ h => h) (Or.inl ⟨by rfl, fun w' => by go_simp; with_reducible rfl⟩) (by simp only [ps_]; rfl) ?_
              refine pure_ (i := 6) (N := some 50) #[true, true, true, true, false, true, true, false, false, false, false, false, false] rfl rfl (any_of HT_.out (by kernel_rfl)) (fun _ _ _ h => h) (Or.inl ⟨by rfl, fun w' => by go_simp; with_reducible rfl⟩) (by simp only [ps_]; rfl) ?_
              refine pure_ (i := 7) (N := some 51) #[true, true, true, true, false, true, true, true, false, false, false, false, false] rfl rfl (any_of HT_.out (by kernel_rfl)) (fun _ _ _ h => h) (Or.inl ⟨by rfl, fun w' => by go_simp; with_reducible rfl⟩) (by simp only [ps_]; rfl) ?_
              refine pure_ (i := 8) (N := some 52) #[true, true, true, true, false, true, true, true, true, false, false, false, false] rfl rfl (any_of HT_.out (by kernel_rfl)) (fun _ _ _ h => h) (Or.inl ⟨by rfl, fun w' => by go_simp; with_reducible rfl⟩) (by simp only [ps_]; rfl) ?_
              refine pure_ (i := 9) (N := some 53) #[true, true, true, true, false, true, true, true, true, true, false, false, false] rfl rfl (any_of HT_.out (by kernel_rfl)) (fun _ _ _ h => h) (Or.inl ⟨by rfl, fun w' => by go_simp; with_reducible rfl⟩) (by simp only [ps_]; rfl) ?_
              refine take_ (i := 4) (N := some 48) (v := ?_) (a' := ?_) #[true, true, true, true, true, true, true, true, true, true, false, false, false] rfl rfl (take_ofW HT_.out HW_.out (by kernel_rfl)) (fun _ _ _ h => h) (Or.inl ⟨by rfl, ?_⟩) hHeld ?_ ?_
              rotate_left
              ·rintro w' ⟨s0, s1, s2, s3, s4, s5, s6, s7⟩
               go_simp
               with_reducible rfl
              rotate_left
              ·simp only [ps_]
               rfl
              refine take_ (i := 10) (N := some 54) (v := ?_) (a' := ?_) #[true, true, true, true, true, true, true, true, true, true, true, false, false] rfl rfl (take_ofW HT_.out HW_.out (by kernel_rfl)) (fun _ _ _ h => h) (Or.inl ⟨by rfl, ?_⟩) hHeld ?_ ?_
              rotate_left
              ·rintro w' ⟨s0, s1, s2, s3, s4, s5, s6, s7⟩
               go_simp
               with_reducible rfl
              rotate_left
              ·simp only [ps_]
               rfl
              refine pure_ (i := 11) (N := some 55) #[true, true, true, true, true, true, true, true, true, true, true, true, false] rfl rfl (any_of HT_.out (by kernel_rfl)) (fun _ _ _ h => h) (Or.inl ⟨by rfl, fun w' => by go_simp; with_reducible rfl⟩) (by simp only [ps_]; rfl) ?_
              refine pure_ (i := 12) (N := some 56) #[true, true, true, true, true, true, true, true, true, true, true, true, true] rfl rfl (any_of HT_.out (by kernel_rfl)) (fun _ _ _ h => h) (Or.inl ⟨by rfl, fun w' => by go_simp; with_reducible rfl⟩) (by simp only [ps_]; rfl) ?_
              refine done_ (done_of HT_.out (by kernel_rfl)) ?_
              try go_wp2
              have n0_ := a0_ (kD_ BK114.out)
              have n1_ := a0_ (kD_ BK118.out)
              have n2_ := a0_ (bD_ HB.out)
              have m2_ := a0_ (bD_ HM.out)
              clear BK114
              clear BK118
              clear HB HM
              have BK114 := n0_
              have BK118 := n1_
              have HB := n2_; have HM := m2_
              clear n0_ n1_ n2_ m2_
              have HS := a0_ (HMS.out.below HM.out)
              clear HM HMS
              have q_ := of_eq_true q117
              obtain ⟨hk0, hk1_⟩ := cR.out _ (rd_mem l1 x39_2 HN.out.1 q_)
              have hk1 : (rd_T34 l1 x39_2).f0 < 2000000 := by have h1_ := LA.out; omega
              refine start_ (n := 17) (S := fun w' => w'.cell? ⟨gb118, 0, none⟩ = some (.int .i64 ((rd_T34 l1 x39_2).f0)) ∧ w'.cell? ⟨gb118, 1, none⟩ = some (.int .i64 ((rd_T34 l1 x39_2).f1)) ∧ w'.cell? ⟨gb118, 2, none⟩ = some (.int .i64 ((rd_T34 l1 x39_2).f2)) ∧ w'.cell? ⟨gb118, 3, none⟩ = some (.string ((rd_T34 l1 x39_2).f3)) ∧ MapAt Try.prog 3 w' w3.heap.size nm_2 (.slice none 0 0) fm_2) (ds := [16]) #[false, false, false, false, false, false, false, false, false, false, false, false, false, false, false, false, false] (by kernel_rfl) rfl rfl ⟨(blk_cell BK118.out 0).trans rfl, (blk_cell BK118.out 1).trans rfl, (blk_cell BK118.out 2).trans rfl, (blk_cell BK118.out 3).trans rfl, HS.out.m⟩ (fun hHeld => ?_)
              generalize w50.drew = w51 at BK114 BK118 HB HS hHeld ⊢
              refine pure_ (i := 0) (N := some 62) #[true, false, false, false, false, false, false, false, false, false, false, false, false, false, false, false, false] rfl rfl (by kernel_rfl) (fun _ _ _ h => h) (Or.inl ⟨by rfl, fun w' => by go_simp; with_reducible rfl⟩) (by simp only [ps_]; rfl) ?_
              refine pure_ (i := 1) (N := some 63) #[true, true, false, false, false, false, false, false, false, false, false, false, false, false, false, false, false] rfl rfl (by kernel_rfl) (fun _ _ _ h => h) (Or.inl ⟨by rfl, fun w' => by go_simp; with_reducible rfl⟩) (by simp only [ps_]; rfl) ?_
              refine pure_ (i := 3) (N := some 65) #[true, true, false, true, false, false, false, false, false, false, false, false, false, false, false, false, false] rfl rfl (by kernel_rfl) (fun _ _ _ h => h) (Or.inl ⟨by rfl, fun w' => by go_simp; with_reducible rfl⟩) (by simp only [ps_]; rfl) ?_
              refine pure_ (i := 4) (N := some 66) #[true, true, false, true, true, false, false, false, false, false, false, false, false, false, false, false, false] rfl rfl (by kernel_rfl) (fun _ _ _ h => h) (Or.inl ⟨by rfl, fun w' => by go_simp; with_reducible rfl⟩) (by simp only [ps_]; rfl) ?_
              refine pure_ (i := 7) (N := some 69) #[true, true, false, true, true, false, false, true, false, false, false, false, false, false, false, false, false] rfl rfl (by kernel_rfl) (fun _ _ _ h => h) (Or.inl ⟨by rfl, fun w' => by go_simp; with_reducible rfl⟩) (by simp only [ps_]; rfl) ?_
              refine pure_ (i := 9) (N := some 71) #[true, true, false, true, true, false, false, true, false, true, false, false, false, false, false, false, false] rfl rfl (by kernel_rfl) (fun _ _ _ h => h) (Or.inl ⟨by rfl, fun w' => by go_simp; with_reducible rfl⟩) (by simp only [ps_]; rfl) ?_
              refine pure_ (i := 11) (N := some 73) #[true, true, false, true, true, false, false, true, false, true, false, true, false, false, false, false, false] rfl rfl (by kernel_rfl) (fun _ _ _ h => h) (Or.inl ⟨by rfl, fun w' => by go_simp; with_reducible rfl⟩) (by simp only [ps_]; rfl) ?_
              refine take_ (i := 2) (N := some 64) (v := ?_) (a' := ?_) #[true, true, true, true, true, false, false, true, false, true, false, true, false, false, false, false, false] rfl rfl (by kernel_rfl) (fun _ _ _ h => h) (Or.inl ⟨by rfl, ?_⟩) hHeld ?_ ?_
              rotate_left
              ·rintro w' ⟨s0, s1, s2, s3, s4⟩
               go_simp
               with_reducible rfl
              rotate_left
              ·simp only [ps_]
               rfl
              refine take_ (i := 5) (N := some 67) (v := ?_) (a' := ?_) #[true, true, true, true, true, true, false, true, false, true, false, true, false, false, false, false, false] rfl rfl (by kernel_rfl) (fun _ _ _ h => h) (Or.inl ⟨by rfl, ?_⟩) hHeld ?_ ?_
              rotate_left
              ·rintro w' ⟨s0, s1, s2, s3, s4⟩
               go_simp
               with_reducible rfl
              rotate_left
              ·simp only [ps_]
               rfl
              refine take_ (i := 6) (N := some 68) (v := ?_) (a' := ?_) #[true, true, true, true, true, true, true, true, false, true, false, true, false, false, false, false, false] rfl rfl (by kernel_rfl) (fun _ _ _ h => h) (Or.inl ⟨by rfl, ?_⟩) hHeld ?_ ?_
              rotate_left
              ·rintro w' ⟨s0, s1, s2, s3, s4⟩
               refine MapV.look_run (by rfl) 65 kd Try.underlying75 (zr _) (by first | rfl | (go_simp; done) | (go_simp; rfl)) s4 ((rd_T34 l1 x39_2).f0) (by first | rfl | (go_simp; done) | (go_simp; rfl)) (kint hk0 hk1) ?_
               with_reducible rfl
              rotate_left
              ·simp only [ps_]
               rfl
              refine take_ (i := 8) (N := some 70) (v := ?_) (a' := ?_) #[true, true, true, true, true, true, true, true, true, true, false, true, false, false, false, false, false] rfl rfl (by kernel_rfl) (fun _ _ _ h => h) (Or.inl ⟨by rfl, ?_⟩) hHeld ?_ ?_
              rotate_left
              ·rintro w' ⟨s0, s1, s2, s3, s4⟩
               go_simp
               with_reducible rfl
              rotate_left
              ·simp only [ps_]
               rfl
              refine take_ (i := 10) (N := some 72) (v := ?_) (a' := ?_) #[true, true, true, true, true, true, true, true, true, true, true, true, false, false, false, false, false] rfl rfl (by kernel_rfl) (fun _ _ _ h => h) (Or.inl ⟨by rfl, ?_⟩) hHeld ?_ ?_
              rotate_left
              ·rintro w' ⟨s0, s1, s2, s3, s4⟩
               go_simp
               with_reducible rfl
              rotate_left
              ·simp only [ps_]
               rfl
              refine take_ (i := 12) (N := some 74) (v := ?_) (a' := ?_) #[true, true, true, true, true, true, true, true, true, true, true, true, true, false, false, false, false] rfl rfl (by kernel_rfl) (fun _ _ _ h => h) (Or.inl ⟨by rfl, ?_⟩) hHeld ?_ ?_
              rotate_left
              ·rintro w' ⟨s0, s1, s2, s3, s4⟩
               go_simp
               with_reducible rfl
              rotate_left
              ·simp only [ps_]
               rfl
              refine pure_ (i := 13) (N := some 75) #[true, true, true, true, true, true, true, true, true, true, true, true, true, true, false, false, false] rfl rfl (by kernel_rfl) (fun _ _ _ h => h) (Or.inl ⟨by rfl, fun w' => by go_simp; with_reducible rfl⟩) (by simp only [ps_]; rfl) ?_
              refine one_ (i := 14) (N := some 76) #[true, true, true, true, true, true, true, true, true, true, true, true, true, true, true, false, false] rfl rfl (by kernel_rfl) (by decide) (fun K hK => ?_)
              refine value_ (w1 := ?_) (v := ?_) (by rfl) rfl ?_ ?_
              rotate_left 2
              ·go_simp
               constructor
               ·rfl
               ·rfl
              refine hK.out _ _ ⟨(blk_cell (kA_ BK118.out _) 0).trans rfl, (blk_cell (kA_ BK118.out _) 1).trans rfl, (blk_cell (kA_ BK118.out _) 2).trans rfl, (blk_cell (kA_ BK118.out _) 3).trans rfl, HS.out.m.below (bA_ (Below.refl _ _) _)⟩ (fun hHeld => ?_)
              clear hK K
              refine norm_ (a' := ?_) ?_ ?_
              rotate_left
              ·show Act.put _ (some 76) _ = _
               simp only [ps_]
               rfl
              refine one_ (i := 15) (N := some 77) #[true, true, true, true, true, true, true, true, true, true, true, true, true, true, true, true, false] rfl rfl (by kernel_rfl) (by decide) (fun K hK => ?_)
              refine Kd.R_append_step k58 (w0 := w) w.heap.size (by rfl) (.tmp 68) (.tmp 76) 65 58 (.agg #[(.int .i64 0), (.int .i64 0), (.string ⟨#[]⟩)]) 32 rfl Try.underlying65 info58 rfl (by decide) (by omega) (fm_2 ((rd_T34 l1 x39_2).f0)) (ofl ((rd_T34 l1 x39_2).f0) (l1.take x39_2.toNat)) (eof (rd_T34 l1 x39_2)) [.int .i64 ((rd_T34 l1 x39_2).f1), .int .i64 ((rd_T34 l1 x39_2).f2), .string ((rd_T34 l1 x39_2).f3)] (fun _ => True) (fun _ => False) rfl rfl ?aP (fun _ hk => hk.elim) ?aF ?aO ?aB ?aS ?aL ?_
              (case aP => exact k58_mkM _ _ _ (⟨(rd_T34 l1 x39_2).f1, (rd_T34 l1 x39_2).f2, (rd_T34 l1 x39_2).f3⟩ : S58))
              (case aB => exact (by exact HB.out))
              (case aF => exact (fun _ _ => trivial))
              (case aO => exact HS.out.rows _)
              (case aS => exact (bZ_ (by exact HB.out)))
              (case aL => have h1_ := ofl_len ((rd_T34 l1 x39_2).f0) (l1.take x39_2.toNat); have h2_ := List.length_take_le x39_2.toNat l1; have h3_ := LB.out; omega)
              intro v121 w52 ho hb hg hat
              obtain ⟨m52, S52⟩ := HS.out.app (rd_T34 l1 x39_2) ho hg hat
              have n0_ := a0_ (blk_grown (g := gb114) BK114.out hg (HS.out.own _ BK114.out (by decide)))
              have n1_ := a0_ (blk_grown (g := gb118) BK118.out hg (HS.out.own _ BK118.out (by decide)))
              have LM := a0_ HS.out.lm
              clear BK114 BK118 HB HS
              have BK114 := n0_
              have BK118 := n1_
              have HB := a0_ hb
              clear n0_ n1_ ho hb hg hat
              refine hK.out _ _ ⟨(blk_cell BK118.out 0).trans rfl, (blk_cell BK118.out 1).trans rfl, (blk_cell BK118.out 2).trans rfl, (blk_cell BK118.out 3).trans rfl, m52⟩ (fun hHeld => ?_)
              clear hK K
              refine norm_ (a' := ?_) ?_ ?_
              rotate_left
              ·show Act.put _ (some 77) _ = _
               simp only [ps_]
               rfl
              refine last_ (i := 16) (N := none) #[true, true, true, true, true, true, true, true, true, true, true, true, true, true, true, true, true] rfl rfl (by kernel_rfl) (by decide) (fun K hK => ?_)
              have hn_ : nm_2 < maxLen := by have h1_ := HN.out; have h2_ := LB.out; unfold maxLen; omega
              refine put_step (w := w52) (by rfl) rfl (by rfl) 65 kd Try.underlying75 (by first | rfl | (go_simp; done) | (go_simp; rfl)) m52 hn_ ((rd_T34 l1 x39_2).f0) v121 (by first | rfl | (go_simp; done) | (go_simp; rfl)) (by first | rfl | (go_simp; done) | (go_simp; rfl)) (kint hk0 hk1) trivial (fun w53 m53 hg53 => ?_)
              have n0_ := a0_ (blk_grown (g := gb114) BK114.out hg53 (fun e_ => m52.ne BK114.out (Option.some.inj e_).symm))
              have n1_ := a0_ (HB.out.grown hg53 HB.out.size (fun k_ hk_ => by cases hk_; exact LM.out))
              have HMS := a0_ (S52 w53 m53 hg53)
              clear BK114 BK118 HB m52 S52 m53 hg53 LM
              have BK114 := n0_
              have HB := n1_
              clear n0_ n1_
              refine hK.out _ _ ?_
              clear hK K
              refine done_ (by kernel_rfl) ?_
              try go_wp2
              have nx_ : (wrap64 (x39_2 + 1)) = x39_2 + 1 := wid (by have := HN.out; omega) (by have := LB.out; omega)
              have tk_ : l1.take (x39_2 + 1).toNat = l1.take x39_2.toNat ++ [rd_T34 l1 x39_2] := take_next l1 x39_2 HN.out.1 q_
              go_roundg k2
              case measure => have := HK1.out; have := HK2.out; omega
              case rel => exact ⟨nm_2 + 1, _, (wrap64 (x39_2 + 1)), (x115000_2), (x115001_2), (x115002_2), (by first | rfl | (simp; done) | (simp [*]; done)), H', ⟨by have := HK1.out; have := HK2.out; omega⟩, ⟨by exact BK114.out⟩, ⟨HB.out⟩, ⟨by rw [nx_]; have h1_ := HN.out; omega⟩, ⟨by rw [nx_, tk_]; exact HMS.out⟩⟩
             ·rw [if_neg c45] at H
              exact absurd H (by simp)
           ·rw [if_neg c34] at H
            exact absurd H (by simp)
          ·rw [if_neg c33] at H
           exact absurd H (by simp)
         ·rw [if_neg c31] at H
          have c31b0 := decide_eq_false c31
          clear c31
          by_cases c53 : ([] : List (S58)).length < 4398046511104
          ·rw [if_pos c53] at H
           have LMc53 := a0_ c53
           clear c53
           obtain ⟨y123, hy123⟩ : ∃ y_ : List (S58), y_ = (([] : List (S58)) ++ [(⟨(rd_T34 l1 x39_2).f1, (rd_T34 l1 x39_2).f2, (rd_T34 l1 x39_2).f3⟩ : S58)]) := ⟨_, rfl⟩
           replace H : (trial_edits.l1 k2 l0 l1 l1 l1 (l1.length : Int) (wrap64 (x39_2 + 1))) = some (r1, r2, r3, r4) := by first | (rw [hy123]; with_reducible exact H) | (have H2_ := (Option.bind_some _ _).symm.trans H; rw [hy123]; with_reducible exact H2_) | (have H2_ := (Option.bind_some _ _).symm.trans H; with_reducible exact H2_) | with_reducible exact H | (rw [hy123]; exact H) | exact H
           have Ny123 := a0_ hy123
           clear hy123
           have H' := a0_ H
           clear H
           have p117 : 0 ≤ (x39_2 : Int) := od_ (by assumption)
           have q117 : x39_2 < (l1.length : Int) := od_ (by assumption)
           obtain ⟨ad117, e117, hx117_0, hx117_1, hx117_2, hx117_3⟩ := at_T34 HR1.out x39_2 p117 q117
           cases e117
           replace hx117_0 := (HB.out.cell (bl_ w _ hx117_0)).trans hx117_0
           replace hx117_1 := (HB.out.cell (bl_ w _ hx117_1)).trans hx117_1
           replace hx117_2 := (HB.out.cell (bl_ w _ hx117_2)).trans hx117_2
           replace hx117_3 := (HB.out.cell (bl_ w _ hx117_3)).trans hx117_3
           replace p117 := eq_true p117
           replace q117 := eq_true q117
           try go_wp2_with (first | ((with_reducible refine gate_dst (N := 10) rfl ?_); (try (refine gate_guard (by rfl) ?_; dsimp only)); refine box_event ?hg (N := 10) ?hd (cs := #[.int .i64 0, .int .i64 0, .int .i64 0, .string (⟨#[]⟩ : ByteArray)]) (t := 34) ?hr ?_; (case hd => rfl); (case hg => rfl); (case hr => first | (go_simp; done) | (go_simp; rfl)); intro gb118 hg w54 hbox hb; have n0_ := a0_ (kB_ (g := gb114) (o := .cells #[.int .i64 x115000_2, .int .i64 x115001_2, .int .i64 x115002_2] 30 (0, 0)) (by exact BK114.out) hb); have n1_ := a0_ (bT_ (by exact HB.out) hb); have m1_ := a0_ (bT_ (by repeat (first | (with_reducible first | exact HM.out | apply bA_ | apply bN_ | apply bD_) | exact HM.out)) hb); have n2_ := a0_ (hbox); have n3_ := a0_ ((by rw [hg]; exact (bZ_ (by exact HB.out)) : w.heap.size ≤ gb118)); have n4_ := a0_ ((by rw [hg]; exact (bZ_ (by exact HB.out)) : w.heap.size ≤ gb118)); have m4_ := a0_ ((by rw [hg]; exact (bZ_ (by repeat (first | (with_reducible first | exact HM.out | apply bA_ | apply bN_ | apply bD_) | exact HM.out))) : wr.heap.size ≤ gb118)); have n5_ := a0_ ((by rw [hg]; exact Nat.ne_of_lt (blk_lt (g := gb114) (o := .cells #[.int .i64 x115000_2, .int .i64 x115001_2, .int .i64 x115002_2] 30 (0, 0)) (by exact BK114.out)) : gb114 ≠ gb118)); have n6_ := a0_ ((by rw [hg]; exact Nat.ne_of_gt (blk_lt (g := gb114) (o := .cells #[.int .i64 x115000_2, .int .i64 x115001_2, .int .i64 x115002_2] 30 (0, 0)) (by exact BK114.out)) : gb118 ≠ gb114)); clear BK114; clear HB HM; have BK114 := n0_; have HB := n1_; have HM := m1_; have BK118 := n2_; have GW118 := n3_; have GE118 := n4_; have GM118 := m4_; have NB114_118 := n5_; have NB118_114 := n6_; clear n0_ n1_ n2_ n3_ n4_ n5_ n6_ m1_ m4_; clear hb hbox hg; have hnb55 := NB118_114.out; have hnc55 := NB114_118.out; have hcz56_0 : w54.cell? ⟨gb118, 0, none⟩ = some (.int .i64 0) := (blk_cell BK118.out 0).trans rfl; have hcz56_1 : w54.cell? ⟨gb118, 1, none⟩ = some (.int .i64 0) := (blk_cell BK118.out 1).trans rfl; have hcz56_2 : w54.cell? ⟨gb118, 2, none⟩ = some (.int .i64 0) := (blk_cell BK118.out 2).trans rfl; have hcz56_3 : w54.cell? ⟨gb118, 3, none⟩ = some (.string (⟨#[]⟩ : ByteArray)) := (blk_cell BK118.out 3).trans rfl; have hfz56_0 := kF_ BK118.out 0; have hfz56_1 := kF_ BK118.out 1; have hfz56_2 := kF_ BK118.out 2; have hfz56_3 := kF_ BK118.out 3))
           have n0_ : Aside0 (((((w54.setCell ⟨gb118, 0, none⟩ (.int .i64 ((rd_T34 l1 x39_2).f0))).setCell ⟨gb118, 1, none⟩ (.int .i64 ((rd_T34 l1 x39_2).f1))).setCell ⟨gb118, 2, none⟩ (.int .i64 ((rd_T34 l1 x39_2).f2))).setCell ⟨gb118, 3, none⟩ (.string ((rd_T34 l1 x39_2).f3))).heap[gb114]? = some (.cells #[.int .i64 x115000_2, .int .i64 x115001_2, .int .i64 x115002_2] 30 (0, 0))) := ⟨by (with_reducible repeat (first | refine kN_ ?_ _ | refine kD_ ?_ | refine kA_ ?_ _)); refine blk_far ?_ NB114_118.out _; (with_reducible repeat (first | refine kN_ ?_ _ | refine kD_ ?_ | refine kA_ ?_ _)); refine blk_far ?_ NB114_118.out _; (with_reducible repeat (first | refine kN_ ?_ _ | refine kD_ ?_ | refine kA_ ?_ _)); refine blk_far ?_ NB114_118.out _; (with_reducible repeat (first | refine kN_ ?_ _ | refine kD_ ?_ | refine kA_ ?_ _)); refine blk_far ?_ NB114_118.out _; (with_reducible repeat (first | refine kN_ ?_ _ | refine kD_ ?_ | refine kA_ ?_ _)); exact BK114.out⟩
           have n1_ : Aside0 (((((w54.setCell ⟨gb118, 0, none⟩ (.int .i64 ((rd_T34 l1 x39_2).f0))).setCell ⟨gb118, 1, none⟩ (.int .i64 ((rd_T34 l1 x39_2).f1))).setCell ⟨gb118, 2, none⟩ (.int .i64 ((rd_T34 l1 x39_2).f2))).setCell ⟨gb118, 3, none⟩ (.string ((rd_T34 l1 x39_2).f3))).heap[gb118]? = some (.cells #[.int .i64 ((rd_T34 l1 x39_2).f0), .int .i64 ((rd_T34 l1 x39_2).f1), .int .i64 ((rd_T34 l1 x39_2).f2), .string ((rd_T34 l1 x39_2).f3)] 34 (0, 0))) := ⟨by refine blk_put (cs := #[.int .i64 ((rd_T34 l1 x39_2).f0), .int .i64 ((rd_T34 l1 x39_2).f1), .int .i64 ((rd_T34 l1 x39_2).f2), .string (⟨#[]⟩ : ByteArray)]) ?_ 3 _ rfl; refine blk_put (cs := #[.int .i64 ((rd_T34 l1 x39_2).f0), .int .i64 ((rd_T34 l1 x39_2).f1), .int .i64 0, .string (⟨#[]⟩ : ByteArray)]) ?_ 2 _ rfl; refine blk_put (cs := #[.int .i64 ((rd_T34 l1 x39_2).f0), .int .i64 0, .int .i64 0, .string (⟨#[]⟩ : ByteArray)]) ?_ 1 _ rfl; refine blk_put (cs := #[.int .i64 0, .int .i64 0, .int .i64 0, .string (⟨#[]⟩ : ByteArray)]) ?_ 0 _ rfl; exact BK118.out⟩
           have n2_ : Aside0 (Below w.heap.size w ((((w54.setCell ⟨gb118, 0, none⟩ (.int .i64 ((rd_T34 l1 x39_2).f0))).setCell ⟨gb118, 1, none⟩ (.int .i64 ((rd_T34 l1 x39_2).f1))).setCell ⟨gb118, 2, none⟩ (.int .i64 ((rd_T34 l1 x39_2).f2))).setCell ⟨gb118, 3, none⟩ (.string ((rd_T34 l1 x39_2).f3)))) := ⟨by repeat (first | (with_reducible first | exact HB.out | apply bA_ | apply bN_ | apply bD_ | refine bS_ ?_ GE114.out | refine bS_ ?_ GE118.out) | exact HB.out)⟩
           have m2_ : Aside0 (Below wr.heap.size wr ((((w54.setCell ⟨gb118, 0, none⟩ (.int .i64 ((rd_T34 l1 x39_2).f0))).setCell ⟨gb118, 1, none⟩ (.int .i64 ((rd_T34 l1 x39_2).f1))).setCell ⟨gb118, 2, none⟩ (.int .i64 ((rd_T34 l1 x39_2).f2))).setCell ⟨gb118, 3, none⟩ (.string ((rd_T34 l1 x39_2).f3)))) := ⟨by repeat (first | (with_reducible first | exact HM.out | apply bA_ | apply bN_ | apply bD_ | refine bS_ ?_ GM118.out) | exact HM.out)⟩
           generalize ((((w54.setCell ⟨gb118, 0, none⟩ (.int .i64 ((rd_T34 l1 x39_2).f0))).setCell ⟨gb118, 1, none⟩ (.int .i64 ((rd_T34 l1 x39_2).f1))).setCell ⟨gb118, 2, none⟩ (.int .i64 ((rd_T34 l1 x39_2).f2))).setCell ⟨gb118, 3, none⟩ (.string ((rd_T34 l1 x39_2).f3))) = w57 at n0_ n1_ n2_ m2_ ⊢
           have BK114 := n0_
           have BK118 := n1_
           have HB := n2_; have HM := m2_
           clear n0_ n1_ n2_ m2_
           have n0_ := a0_ (kD_ BK114.out)
           have n1_ := a0_ (kD_ BK118.out)
           have n2_ := a0_ (bD_ HB.out)
           have m2_ := a0_ (bD_ HM.out)
           clear BK114
           clear BK118
           clear HB HM
           have BK114 := n0_
           have BK118 := n1_
           have HB := n2_; have HM := m2_
           clear n0_ n1_ n2_ m2_
           refine start_ (n := 13) (S := fun w' => True) (ds := []) #[false, false, false, false, false, false, false, false, false, false, false, false, false] (by kernel_rfl) rfl rfl trivial (fun hHeld => ?_); refine with_tabW trial_edits.tab11 trial_edits.bits11 (fun HT_ HW_ => ?_)
           generalize w57.drew = w58 at BK114 BK118 HB HM hHeld ⊢
           refine pure_ (i := 0) (N := some 44) #[true, false, false, false, false, false, false, false, false, false, false, false, false] rfl rfl (any_of HT_.out (by kernel_rfl)) (fun _ _ _ h => h) (Or.inl ⟨by rfl, fun w' => by go_simp; with_reducible rfl⟩) (by simp only [ps_]; rfl) ?_
           refine pure_ (i := 1) (N := some 45) #[true, true, false, false, false, false, false, false, false, false, false, false, false] rfl rfl (any_of HT_.out (by kernel_rfl)) (fun _ _ _ h => h) (Or.inl ⟨by rfl, fun w' => by go_simp; with_reducible rfl⟩) (by simp only [ps_]; rfl) ?_
           refine pure_ (i := 2) (N := some 46) #[true, true, true, false, false, false, false, false, false, false, false, false, false] rfl rfl (any_of HT_.out (by kernel_rfl)) (fun _ _ _ h => h) (Or.inl ⟨by rfl, fun w' => by go_simp; with_reducible rfl⟩) (by simp only [ps_]; rfl) ?_
           refine pure_ (i := 3) (N := some 47) (v := undef) (a' := ?_) #[true, true, true, true, false, false, false, false, false, false, false, false, false] rfl rfl (any_of HT_.out (by kernel_rfl)) (fun _ _ _ h => h) (Or.inr ⟨by rfl, rfl⟩) ?_ ?_
           rotate_left
           ·simp only [ps_]
            rfl
           refine pure_ (i := 4) (N := some 48) (v := undef) (a' := ?_) #[true, true, true, true, true, false, false, false, false, false, false, false, false] rfl rfl (any_of HT_.out (by kernel_rfl)) (fun _ _ _ h => h) (Or.inr ⟨by rfl, rfl⟩) ?_ ?_
           rotate_left
           ·simp only [ps_]
            rfl
           refine pure_ (i := 5) (N := some 49) (v := undef) (a' := ?_) #[true, true, true, true, true, true, false, false, false, false, false, false, false] rfl rfl (any_of HT_.out (by kernel_rfl)) (fun _ _ _ h => h) (Or.inr ⟨by rfl, rfl⟩) ?_ ?_
           rotate_left
           ·simp only [ps_]
            rfl
           refine pure_ (i := 6) (N := some 50) (v := undef) (a' := ?_) #[true, true, true, true, true, true, true, false, false, false, false, false, false] rfl rfl (any_of HT_.out (by kernel_rfl)) (fun _ _ _ h => h) (Or.inr ⟨by rfl, rfl⟩) ?_ ?_
           rotate_left
           ·simp only [ps_]
            rfl
           refine pure_ (i := 7) (N := some 51) (v := undef) (a' := ?_) #[true, true, true, true, true, true, true, true, false, false, false, false, false] rfl rfl (any_of HT_.out (by kernel_rfl)) (fun _ _ _ h => h) (Or.inr ⟨by rfl, rfl⟩) ?_ ?_
           rotate_left
           ·simp only [ps_]
            rfl
           refine pure_ (i := 8) (N := some 52) (v := undef) (a' := ?_) #[true, true, true, true, true, true, true, true, true, false, false, false, false] rfl rfl (any_of HT_.out (by kernel_rfl)) (fun _ _ _ h => h) (Or.inr ⟨by rfl, rfl⟩) ?_ ?_
           rotate_left
           ·simp only [ps_]
            rfl
           refine pure_ (i := 9) (N := some 53) (v := undef) (a' := ?_) #[true, true, true, true, true, true, true, true, true, true, false, false, false] rfl rfl (any_of HT_.out (by kernel_rfl)) (fun _ _ _ h => h) (Or.inr ⟨by rfl, rfl⟩) ?_ ?_
           rotate_left
           ·simp only [ps_]
            rfl
           refine pure_ (i := 10) (N := some 54) (v := undef) (a' := ?_) #[true, true, true, true, true, true, true, true, true, true, true, false, false] rfl rfl (any_of HT_.out (by kernel_rfl)) (fun _ _ _ h => h) (Or.inr ⟨by rfl, rfl⟩) ?_ ?_
           rotate_left
           ·simp only [ps_]
            rfl
           refine pure_ (i := 11) (N := some 55) (v := undef) (a' := ?_) #[true, true, true, true, true, true, true, true, true, true, true, true, false] rfl rfl (any_of HT_.out (by kernel_rfl)) (fun _ _ _ h => h) (Or.inr ⟨by rfl, rfl⟩) ?_ ?_
           rotate_left
           ·simp only [ps_]
            rfl
           refine pure_ (i := 12) (N := some 56) #[true, true, true, true, true, true, true, true, true, true, true, true, true] rfl rfl (any_of HT_.out (by kernel_rfl)) (fun _ _ _ h => h) (Or.inl ⟨by rfl, fun w' => by go_simp; with_reducible rfl⟩) (by simp only [ps_]; rfl) ?_
           refine done_ (done_of HT_.out (by kernel_rfl)) ?_
           try go_wp2
           have n0_ := a0_ (kD_ BK114.out)
           have n1_ := a0_ (kD_ BK118.out)
           have n2_ := a0_ (bD_ HB.out)
           have m2_ := a0_ (bD_ HM.out)
           clear BK114
           clear BK118
           clear HB HM
           have BK114 := n0_
           have BK118 := n1_
           have HB := n2_; have HM := m2_
           clear n0_ n1_ n2_ m2_
           have HS := a0_ (HMS.out.below HM.out)
           clear HM HMS
           have q_ := of_eq_true q117
           obtain ⟨hk0, hk1_⟩ := cR.out _ (rd_mem l1 x39_2 HN.out.1 q_)
           have hk1 : (rd_T34 l1 x39_2).f0 < 2000000 := by have h1_ := LA.out; omega
           refine start_ (n := 17) (S := fun w' => w'.cell? ⟨gb118, 0, none⟩ = some (.int .i64 ((rd_T34 l1 x39_2).f0)) ∧ w'.cell? ⟨gb118, 1, none⟩ = some (.int .i64 ((rd_T34 l1 x39_2).f1)) ∧ w'.cell? ⟨gb118, 2, none⟩ = some (.int .i64 ((rd_T34 l1 x39_2).f2)) ∧ w'.cell? ⟨gb118, 3, none⟩ = some (.string ((rd_T34 l1 x39_2).f3)) ∧ MapAt Try.prog 3 w' w3.heap.size nm_2 (.slice none 0 0) fm_2) (ds := [16]) #[false, false, false, false, false, false, false, false, false, false, false, false, false, false, false, false, false] (by kernel_rfl) rfl rfl ⟨(blk_cell BK118.out 0).trans rfl, (blk_cell BK118.out 1).trans rfl, (blk_cell BK118.out 2).trans rfl, (blk_cell BK118.out 3).trans rfl, HS.out.m⟩ (fun hHeld => ?_)
           generalize w58.drew = w59 at BK114 BK118 HB HS hHeld ⊢
           refine pure_ (i := 0) (N := some 62) #[true, false, false, false, false, false, false, false, false, false, false, false, false, false, false, false, false] rfl rfl (by kernel_rfl) (fun _ _ _ h => h) (Or.inl ⟨by rfl, fun w' => by go_simp; with_reducible rfl⟩) (by simp only [ps_]; rfl) ?_
           refine pure_ (i := 1) (N := some 63) #[true, true, false, false, false, false, false, false, false, false, false, false, false, false, false, false, false] rfl rfl (by kernel_rfl) (fun _ _ _ h => h) (Or.inl ⟨by rfl, fun w' => by go_simp; with_reducible rfl⟩) (by simp only [ps_]; rfl) ?_
           refine pure_ (i := 3) (N := some 65) #[true, true, false, true, false, false, false, false, false, false, false, false, false, false, false, false, false] rfl rfl (by kernel_rfl) (fun _ _ _ h => h) (Or.inl ⟨by rfl, fun w' => by go_simp; with_reducible rfl⟩) (by simp only [ps_]; rfl) ?_
           refine pure_ (i := 4) (N := some 66) #[true, true, false, true, true, false, false, false, false, false, false, false, false, false, false, false, false] rfl rfl (by kernel_rfl) (fun _ _ _ h => h) (Or.inl ⟨by rfl, fun w' => by go_simp; with_reducible rfl⟩) (by simp only [ps_]; rfl) ?_
           refine pure_ (i := 7) (N := some 69) #[true, true, false, true, true, false, false, true, false, false, false, false, false, false, false, false, false] rfl rfl (by kernel_rfl) (fun _ _ _ h => h) (Or.inl ⟨by rfl, fun w' => by go_simp; with_reducible rfl⟩) (by simp only [ps_]; rfl) ?_
           refine pure_ (i := 9) (N := some 71) #[true, true, false, true, true, false, false, true, false, true, false, false, false, false, false, false, false] rfl rfl (by kernel_rfl) (fun _ _ _ h => h) (Or.inl ⟨by rfl, fun w' => by go_simp; with_reducible rfl⟩) (by simp only [ps_]; rfl) ?_
           refine pure_ (i := 11) (N := some 73) #[true, true, false, true, true, false, false, true, false, true, false, true, false, false, false, false, false] rfl rfl (by kernel_rfl) (fun _ _ _ h => h) (Or.inl ⟨by rfl, fun w' => by go_simp; with_reducible rfl⟩) (by simp only [ps_]; rfl) ?_
           refine take_ (i := 2) (N := some 64) (v := ?_) (a' := ?_) #[true, true, true, true, true, false, false, true, false, true, false, true, false, false, false, false, false] rfl rfl (by kernel_rfl) (fun _ _ _ h => h) (Or.inl ⟨by rfl, ?_⟩) hHeld ?_ ?_
           rotate_left
           ·rintro w' ⟨s0, s1, s2, s3, s4⟩
            go_simp
            with_reducible rfl
           rotate_left
           ·simp only [ps_]
            rfl
           refine take_ (i := 5) (N := some 67) (v := ?_) (a' := ?_) #[true, true, true, true, true, true, false, true, false, true, false, true, false, false, false, false, false] rfl rfl (by kernel_rfl) (fun _ _ _ h => h) (Or.inl ⟨by rfl, ?_⟩) hHeld ?_ ?_
           rotate_left
           ·rintro w' ⟨s0, s1, s2, s3, s4⟩
            go_simp
            with_reducible rfl
           rotate_left
           ·simp only [ps_]
            rfl
           refine take_ (i := 6) (N := some 68) (v := ?_) (a' := ?_) #[true, true, true, true, true, true, true, true, false, true, false, true, false, false, false, false, false] rfl rfl (by kernel_rfl) (fun _ _ _ h => h) (Or.inl ⟨by rfl, ?_⟩) hHeld ?_ ?_
           rotate_left
           ·rintro w' ⟨s0, s1, s2, s3, s4⟩
            refine MapV.look_run (by rfl) 65 kd Try.underlying75 (zr _) (by first | rfl | (go_simp; done) | (go_simp; rfl)) s4 ((rd_T34 l1 x39_2).f0) (by first | rfl | (go_simp; done) | (go_simp; rfl)) (kint hk0 hk1) ?_
            with_reducible rfl
           rotate_left
           ·simp only [ps_]
            rfl
           refine take_ (i := 8) (N := some 70) (v := ?_) (a' := ?_) #[true, true, true, true, true, true, true, true, true, true, false, true, false, false, false, false, false] rfl rfl (by kernel_rfl) (fun _ _ _ h => h) (Or.inl ⟨by rfl, ?_⟩) hHeld ?_ ?_
           rotate_left
           ·rintro w' ⟨s0, s1, s2, s3, s4⟩
            go_simp
            with_reducible rfl
           rotate_left
           ·simp only [ps_]
            rfl
           refine take_ (i := 10) (N := some 72) (v := ?_) (a' := ?_) #[true, true, true, true, true, true, true, true, true, true, true, true, false, false, false, false, false] rfl rfl (by kernel_rfl) (fun _ _ _ h => h) (Or.inl ⟨by rfl, ?_⟩) hHeld ?_ ?_
           rotate_left
           ·rintro w' ⟨s0, s1, s2, s3, s4⟩
            go_simp
            with_reducible rfl
           rotate_left
           ·simp only [ps_]
            rfl
           refine take_ (i := 12) (N := some 74) (v := ?_) (a' := ?_) #[true, true, true, true, true, true, true, true, true, true, true, true, true, false, false, false, false] rfl rfl (by kernel_rfl) (fun _ _ _ h => h) (Or.inl ⟨by rfl, ?_⟩) hHeld ?_ ?_
           rotate_left
           ·rintro w' ⟨s0, s1, s2, s3, s4⟩
            go_simp
            with_reducible rfl
           rotate_left
           ·simp only [ps_]
            rfl
           refine pure_ (i := 13) (N := some 75) #[true, true, true, true, true, true, true, true, true, true, true, true, true, true, false, false, false] rfl rfl (by kernel_rfl) (fun _ _ _ h => h) (Or.inl ⟨by rfl, fun w' => by go_simp; with_reducible rfl⟩) (by simp only [ps_]; rfl) ?_
           refine one_ (i := 14) (N := some 76) #[true, true, true, true, true, true, true, true, true, true, true, true, true, true, true, false, false] rfl rfl (by kernel_rfl) (by decide) (fun K hK => ?_)
           refine value_ (w1 := ?_) (v := ?_) (by rfl) rfl ?_ ?_
           rotate_left 2
           ·go_simp
            constructor
            ·rfl
            ·rfl
           refine hK.out _ _ ⟨(blk_cell (kA_ BK118.out _) 0).trans rfl, (blk_cell (kA_ BK118.out _) 1).trans rfl, (blk_cell (kA_ BK118.out _) 2).trans rfl, (blk_cell (kA_ BK118.out _) 3).trans rfl, HS.out.m.below (bA_ (Below.refl _ _) _)⟩ (fun hHeld => ?_)
           clear hK K
           refine norm_ (a' := ?_) ?_ ?_
           rotate_left
           ·show Act.put _ (some 76) _ = _
            simp only [ps_]
            rfl
           refine one_ (i := 15) (N := some 77) #[true, true, true, true, true, true, true, true, true, true, true, true, true, true, true, true, false] rfl rfl (by kernel_rfl) (by decide) (fun K hK => ?_)
           refine Kd.R_append_step k58 (w0 := w) w.heap.size (by rfl) (.tmp 68) (.tmp 76) 65 58 (.agg #[(.int .i64 0), (.int .i64 0), (.string ⟨#[]⟩)]) 32 rfl Try.underlying65 info58 rfl (by decide) (by omega) (fm_2 ((rd_T34 l1 x39_2).f0)) (ofl ((rd_T34 l1 x39_2).f0) (l1.take x39_2.toNat)) (eof (rd_T34 l1 x39_2)) [.int .i64 ((rd_T34 l1 x39_2).f1), .int .i64 ((rd_T34 l1 x39_2).f2), .string ((rd_T34 l1 x39_2).f3)] (fun _ => True) (fun _ => False) rfl rfl ?aP (fun _ hk => hk.elim) ?aF ?aO ?aB ?aS ?aL ?_
           (case aP => exact k58_mkM _ _ _ (⟨(rd_T34 l1 x39_2).f1, (rd_T34 l1 x39_2).f2, (rd_T34 l1 x39_2).f3⟩ : S58))
           (case aB => exact (by exact HB.out))
           (case aF => exact (fun _ _ => trivial))
           (case aO => exact HS.out.rows _)
           (case aS => exact (bZ_ (by exact HB.out)))
           (case aL => have h1_ := ofl_len ((rd_T34 l1 x39_2).f0) (l1.take x39_2.toNat); have h2_ := List.length_take_le x39_2.toNat l1; have h3_ := LB.out; omega)
           intro v121 w52 ho hb hg hat
           obtain ⟨m52, S52⟩ := HS.out.app (rd_T34 l1 x39_2) ho hg hat
           have n0_ := a0_ (blk_grown (g := gb114) BK114.out hg (HS.out.own _ BK114.out (by decide)))
           have n1_ := a0_ (blk_grown (g := gb118) BK118.out hg (HS.out.own _ BK118.out (by decide)))
           have LM := a0_ HS.out.lm
           clear BK114 BK118 HB HS
           have BK114 := n0_
           have BK118 := n1_
           have HB := a0_ hb
           clear n0_ n1_ ho hb hg hat
           refine hK.out _ _ ⟨(blk_cell BK118.out 0).trans rfl, (blk_cell BK118.out 1).trans rfl, (blk_cell BK118.out 2).trans rfl, (blk_cell BK118.out 3).trans rfl, m52⟩ (fun hHeld => ?_)
           clear hK K
           refine norm_ (a' := ?_) ?_ ?_
           rotate_left
           ·show Act.put _ (some 77) _ = _
            simp only [ps_]
            rfl
           refine last_ (i := 16) (N := none) #[true, true, true, true, true, true, true, true, true, true, true, true, true, true, true, true, true] rfl rfl (by kernel_rfl) (by decide) (fun K hK => ?_)
           have hn_ : nm_2 < maxLen := by have h1_ := HN.out; have h2_ := LB.out; unfold maxLen; omega
           refine put_step (w := w52) (by rfl) rfl (by rfl) 65 kd Try.underlying75 (by first | rfl | (go_simp; done) | (go_simp; rfl)) m52 hn_ ((rd_T34 l1 x39_2).f0) v121 (by first | rfl | (go_simp; done) | (go_simp; rfl)) (by first | rfl | (go_simp; done) | (go_simp; rfl)) (kint hk0 hk1) trivial (fun w53 m53 hg53 => ?_)
           have n0_ := a0_ (blk_grown (g := gb114) BK114.out hg53 (fun e_ => m52.ne BK114.out (Option.some.inj e_).symm))
           have n1_ := a0_ (HB.out.grown hg53 HB.out.size (fun k_ hk_ => by cases hk_; exact LM.out))
           have HMS := a0_ (S52 w53 m53 hg53)
           clear BK114 BK118 HB m52 S52 m53 hg53 LM
           have BK114 := n0_
           have HB := n1_
           clear n0_ n1_
           refine hK.out _ _ ?_
           clear hK K
           refine done_ (by kernel_rfl) ?_
           try go_wp2
           have nx_ : (wrap64 (x39_2 + 1)) = x39_2 + 1 := wid (by have := HN.out; omega) (by have := LB.out; omega)
           have tk_ : l1.take (x39_2 + 1).toNat = l1.take x39_2.toNat ++ [rd_T34 l1 x39_2] := take_next l1 x39_2 HN.out.1 q_
           go_roundg k2
           case measure => have := HK1.out; have := HK2.out; omega
           case rel => exact ⟨nm_2 + 1, _, (wrap64 (x39_2 + 1)), (x115000_2), (x115001_2), (x115002_2), (by first | rfl | (simp; done) | (simp [*]; done)), H', ⟨by have := HK1.out; have := HK2.out; omega⟩, ⟨by exact BK114.out⟩, ⟨HB.out⟩, ⟨by rw [nx_]; have h1_ := HN.out; omega⟩, ⟨by rw [nx_, tk_]; exact HMS.out⟩⟩
          ·rw [if_neg c53] at H
           exact absurd H (by simp)
        ·rw [if_neg c30] at H
         exact absurd H (by simp)
       ·rw [if_neg c29] at H
        exact absurd H (by simp)
      ·rw [if_neg c28] at H
       have HMS3 := HMS.out; rw [List.take_of_length_le (by have := HN.out; omega)] at HMS3
       have c28b0 := decide_eq_false c28
       clear c28
       have H' := a0_ H
       clear H
       go_wp2
       go_loopg [81] k2 (fun kq v81 w' => ∃ (x81_3 : Int) (x115000_3 : Int) (x115001_3 : Int) (x115002_3 : Int), v81 = .int .i64 x81_3 ∧ Aside0 (trial_edits.l2 kq l1 l0 (l0.length : Int) x81_3 = some (r1, r2, r3, r4)) ∧ Aside0 (kq ≤ k2) ∧ Aside0 (w'.heap[gb114]? = some (.cells #[.int .i64 x115000_3, .int .i64 x115001_3, .int .i64 x115002_3] 30 (0, 0))) ∧ Aside0 (Below w.heap.size w w') ∧ Aside0 (MS w w' w3.heap.size nm_2 fm_2 l1))
       case atStart => exact ⟨(0), (x115000_2), (x115001_2), (x115002_2), (by first | rfl | (simp; done) | (simp [*]; done)), H', ⟨Nat.le_refl _⟩, ⟨by exact BK114.out⟩, ⟨by exact HB.out⟩, ⟨HMS3⟩⟩
       case round =>
        clear H'
        obtain ⟨x81_3, x115000_3, x115001_3, x115002_3, rfl, HA, HK3, BK114, HB, HMS⟩ := hrel
        have HM := a0_ (Below.refl wr.heap.size wr)
        cases gk with
        | zero => exact absurd HA.out (by simp [trial_edits.l2])
        | succ k3 =>
         have H := HA.out
         clear HA
         simp only [trial_edits.l2] at H
         by_cases c61 : x81_3 < (l0.length : Int)
         ·rw [if_pos c61] at H
          have c61b0 := decide_eq_true c61
          clear c61
          by_cases c62 : 0 ≤ x81_3
          ·rw [if_pos c62] at H
           have c62b0 := decide_eq_true c62
           clear c62
           by_cases c63 : x81_3 < (l0.length : Int)
           ·rw [if_pos c63] at H
            have c63b0 := decide_eq_true c63
            clear c63
            replace H := ob_ H
            obtain ⟨t128, A640, H⟩ := H
            replace H : (if t128 = 0 then (trial_edits.l2 k3 l1 l0 (l0.length : Int) (wrap64 (x81_3 + 1))) else (some (0, t128, x81_3, 0))) = some (r1, r2, r3, r4) := H
            have A64 := a0_ A640
            clear A640
            by_cases c65 : t128 = 0
            ·rw [if_pos c65] at H
             have c65b0 : (t128 == 0) = true := beq_iff_eq.mpr c65
             have c65b1 : (t128 != 0) = false := bne_eq_false_iff_eq.mpr c65
             clear c65
             have H' := a0_ H
             clear H
             have p126 : 0 ≤ (x81_3 : Int) := od_ (by assumption)
             have q126 : x81_3 < (l0.length : Int) := od_ (by assumption)
             obtain ⟨ad126, e126, hx126_0, hx126_1⟩ := at_T36 HR0.out x81_3 p126 q126
             cases e126
             replace hx126_0 := (HB.out.cell (bl_ w _ hx126_0)).trans hx126_0
             replace hx126_1 := (HB.out.cell (bl_ w _ hx126_1)).trans hx126_1
             replace p126 := eq_true p126
             replace q126 := eq_true q126
             obtain ⟨Am, cm, em⟩ := Kd.R_slice (HMS.out.rows x81_3)
             have HRm := HMS.out.rows x81_3
             rw [em] at HRm
             replace HRm := a0_ HRm
             have hk0 : 0 ≤ x81_3 := of_eq_true p126
             have hk1 : x81_3 < 2000000 := by have h1_ := of_eq_true q126; have h2_ := LA.out; omega
             go_wp2_with (first | ((with_reducible refine gate_dst (N := 91) rfl ?_); refine MapV.look' rfl _ _ _ rfl 65 kd Try.underlying75 (zr _) ?hm (HMS.out.m.below (by repeat (first | (with_reducible first | exact HM.out | apply bA_ | apply bN_ | apply bD_ | refine bS_ ?_ GM127.out) | exact HM.out))) x81_3 ?hx (kint hk0 hk1) em ?_; (case hm => first | rfl | (go_simp; done) | (go_simp; rfl)); (case hx => first | rfl | (go_simp; done) | (go_simp; rfl))) | ((with_reducible refine gate_dst (N := 12) rfl ?_); (try (refine gate_guard (by rfl) ?_; dsimp only)); refine box_event ?hg (N := 12) ?hd (cs := #[.string (⟨#[]⟩ : ByteArray), .string (⟨#[]⟩ : ByteArray)]) (t := 36) ?hr ?_; (case hd => rfl); (case hg => rfl); (case hr => first | (go_simp; done) | (go_simp; rfl)); intro gb127 hg w66 hbox hb; have n0_ := a0_ (kB_ (g := gb114) (o := .cells #[.int .i64 x115000_3, .int .i64 x115001_3, .int .i64 x115002_3] 30 (0, 0)) (by exact BK114.out) hb); have n1_ := a0_ (bT_ (by exact HB.out) hb); have m1_ := a0_ (bT_ (by repeat (first | (with_reducible first | exact HM.out | apply bA_ | apply bN_ | apply bD_) | exact HM.out)) hb); have n2_ := a0_ (hbox); have n3_ := a0_ ((by rw [hg]; exact (bZ_ (by exact HB.out)) : w.heap.size ≤ gb127)); have n4_ := a0_ ((by rw [hg]; exact (bZ_ (by exact HB.out)) : w.heap.size ≤ gb127)); have m4_ := a0_ ((by rw [hg]; exact (bZ_ (by repeat (first | (with_reducible first | exact HM.out | apply bA_ | apply bN_ | apply bD_) | exact HM.out))) : wr.heap.size ≤ gb127)); have n5_ := a0_ ((by rw [hg]; exact Nat.ne_of_lt (blk_lt (g := gb114) (o := .cells #[.int .i64 x115000_3, .int .i64 x115001_3, .int .i64 x115002_3] 30 (0, 0)) (by exact BK114.out)) : gb114 ≠ gb127)); have n6_ := a0_ ((by rw [hg]; exact Nat.ne_of_gt (blk_lt (g := gb114) (o := .cells #[.int .i64 x115000_3, .int .i64 x115001_3, .int .i64 x115002_3] 30 (0, 0)) (by exact BK114.out)) : gb127 ≠ gb114)); clear BK114; clear HB HM; have BK114 := n0_; have HB := n1_; have HM := m1_; have BK127 := n2_; have GW127 := n3_; have GE127 := n4_; have GM127 := m4_; have NB114_127 := n5_; have NB127_114 := n6_; clear n0_ n1_ n2_ n3_ n4_ n5_ n6_ m1_ m4_; clear hb hbox hg; have hnb67 := NB127_114.out; have hnc67 := NB114_127.out; have hcz68_0 : w66.cell? ⟨gb127, 0, none⟩ = some (.string (⟨#[]⟩ : ByteArray)) := (blk_cell BK127.out 0).trans rfl; have hcz68_1 : w66.cell? ⟨gb127, 1, none⟩ = some (.string (⟨#[]⟩ : ByteArray)) := (blk_cell BK127.out 1).trans rfl; have hfz68_0 := kF_ BK127.out 0; have hfz68_1 := kF_ BK127.out 1) | ((with_reducible refine gate_callee (f := 23) rfl ?_); refine goesL_ (some 92) rfl rfl Try.func23 (by kernel_rfl) rfl #[.int .i64 (((rd_T36 l0 x81_3).f1).size : Int), .slice Am (ofl x81_3 l1).length cm] rfl (by (try simp only [List.map_toArray, List.map_cons, List.map_nil]); first | done | rfl | (simp only [List.length_drop, List.length_take]; rfl)) ?_; (refine (edit_Check.calls k3 (((rd_T36 l0 x81_3).f1).size : Int) _ _ (ofl x81_3 l1) t128 _ ?side1 ?side2 A64.out).mono ?_); (case side1 => exact (Kd.R_reads' (Kd.R_below HRm.out (by repeat (first | (with_reducible first | exact HM.out | apply bA_ | apply bN_ | apply bD_ | refine bS_ ?_ GM127.out) | exact HM.out)))).2.2); (case side2 => exact (Kd.R_reads' HRm.out).2.1); rintro e w69 ⟨rfl, hb⟩; refine ⟨_, rfl, ?_⟩; have n0_ := a0_ (kB_ (g := gb114) (o := .cells #[.int .i64 x115000_3, .int .i64 x115001_3, .int .i64 x115002_3] 30 (0, 0)) (by (with_reducible repeat (first | refine kN_ ?_ _ | refine kD_ ?_ | refine kA_ ?_ _)); refine blk_far ?_ NB114_127.out _; (with_reducible repeat (first | refine kN_ ?_ _ | refine kD_ ?_ | refine kA_ ?_ _)); refine blk_far ?_ NB114_127.out _; (with_reducible repeat (first | refine kN_ ?_ _ | refine kD_ ?_ | refine kA_ ?_ _)); exact BK114.out) hb); have n1_ := a0_ (kB_ (g := gb127) (o := .cells #[.string ((rd_T36 l0 x81_3).f0), .string ((rd_T36 l0 x81_3).f1)] 36 (0, 0)) (by (with_reducible repeat (first | refine kN_ ?_ _ | refine kD_ ?_ | refine kA_ ?_ _)); refine blk_put (cs := #[.string ((rd_T36 l0 x81_3).f0), .string (⟨#[]⟩ : ByteArray)]) ?_ 1 _ rfl; (with_reducible repeat (first | refine kN_ ?_ _ | refine kD_ ?_ | refine kA_ ?_ _)); refine blk_put (cs := #[.string (⟨#[]⟩ : ByteArray), .string (⟨#[]⟩ : ByteArray)]) ?_ 0 _ rfl; (with_reducible repeat (first | refine kN_ ?_ _ | refine kD_ ?_ | refine kA_ ?_ _)); exact BK127.out) hb); have n2_ := a0_ (bT_ (by repeat (first | (with_reducible first | exact HB.out | apply bA_ | apply bN_ | apply bD_ | refine bS_ ?_ GE114.out | refine bS_ ?_ GE127.out) | exact HB.out)) hb); have m2_ := a0_ (bT_ (by repeat (first | (with_reducible first | exact HM.out | apply bA_ | apply bN_ | apply bD_ | refine bS_ ?_ GM127.out) | exact HM.out)) hb); clear BK114; clear BK127; clear HB HM; have BK114 := n0_; have BK127 := n1_; have HB := n2_; have HM := m2_; clear n0_ n1_ n2_ m2_; (try clear hb); (try clear hb2); (try clear hk); (try clear hi)))
             go_roundg k3
             case measure => have := HK1.out; have := HK2.out; have := HK3.out; omega
             case rel => exact ⟨(wrap64 (x81_3 + 1)), (x115000_3), (x115001_3), (x115002_3), (by first | rfl | (rw [wid (x := x81_3 + 1) (by omega) (by omega)]; done) | (simp; done) | (simp [*]; done)), H', ⟨by have := HK1.out; have := HK2.out; have := HK3.out; omega⟩, ⟨by exact BK114.out⟩, ⟨by exact HB.out⟩, ⟨HMS.out.below (by repeat (first | (with_reducible first | exact HM.out | apply bA_ | apply bN_ | apply bD_ | refine bS_ ?_ GM127.out) | exact HM.out))⟩⟩
            ·rw [if_neg c65] at H
             have c65b0 : (t128 == 0) = false := beq_eq_false_iff_ne.mpr c65
             have c65b1 : (t128 != 0) = true := bne_iff_ne.mpr c65
             simp only [Option.some.injEq, Prod.mk.injEq] at H
             obtain ⟨rfl, rfl, rfl, rfl⟩ := H
             have p126 : 0 ≤ (x81_3 : Int) := od_ (by assumption)
             have q126 : x81_3 < (l0.length : Int) := od_ (by assumption)
             obtain ⟨ad126, e126, hx126_0, hx126_1⟩ := at_T36 HR0.out x81_3 p126 q126
             cases e126
             replace hx126_0 := (HB.out.cell (bl_ w _ hx126_0)).trans hx126_0
             replace hx126_1 := (HB.out.cell (bl_ w _ hx126_1)).trans hx126_1
             replace p126 := eq_true p126
             replace q126 := eq_true q126
             obtain ⟨Am, cm, em⟩ := Kd.R_slice (HMS.out.rows x81_3)
             have HRm := HMS.out.rows x81_3
             rw [em] at HRm
             replace HRm := a0_ HRm
             have hk0 : 0 ≤ x81_3 := of_eq_true p126
             have hk1 : x81_3 < 2000000 := by have h1_ := of_eq_true q126; have h2_ := LA.out; omega
             go_wp2_with (first | ((with_reducible refine gate_dst (N := 91) rfl ?_); refine MapV.look' rfl _ _ _ rfl 65 kd Try.underlying75 (zr _) ?hm (HMS.out.m.below (by repeat (first | (with_reducible first | exact HM.out | apply bA_ | apply bN_ | apply bD_ | refine bS_ ?_ GM127.out) | exact HM.out))) x81_3 ?hx (kint hk0 hk1) em ?_; (case hm => first | rfl | (go_simp; done) | (go_simp; rfl)); (case hx => first | rfl | (go_simp; done) | (go_simp; rfl))) | ((with_reducible refine gate_dst (N := 12) rfl ?_); (try (refine gate_guard (by rfl) ?_; dsimp only)); refine box_event ?hg (N := 12) ?hd (cs := #[.string (⟨#[]⟩ : ByteArray), .string (⟨#[]⟩ : ByteArray)]) (t := 36) ?hr ?_; (case hd => rfl); (case hg => rfl); (case hr => first | (go_simp; done) | (go_simp; rfl)); intro gb127 hg w70 hbox hb; have n0_ := a0_ (kB_ (g := gb114) (o := .cells #[.int .i64 x115000_3, .int .i64 x115001_3, .int .i64 x115002_3] 30 (0, 0)) (by exact BK114.out) hb); have n1_ := a0_ (bT_ (by exact HB.out) hb); have m1_ := a0_ (bT_ (by repeat (first | (with_reducible first | exact HM.out | apply bA_ | apply bN_ | apply bD_) | exact HM.out)) hb); have n2_ := a0_ (hbox); have n3_ := a0_ ((by rw [hg]; exact (bZ_ (by exact HB.out)) : w.heap.size ≤ gb127)); have n4_ := a0_ ((by rw [hg]; exact (bZ_ (by exact HB.out)) : w.heap.size ≤ gb127)); have m4_ := a0_ ((by rw [hg]; exact (bZ_ (by repeat (first | (with_reducible first | exact HM.out | apply bA_ | apply bN_ | apply bD_) | exact HM.out))) : wr.heap.size ≤ gb127)); have n5_ := a0_ ((by rw [hg]; exact Nat.ne_of_lt (blk_lt (g := gb114) (o := .cells #[.int .i64 x115000_3, .int .i64 x115001_3, .int .i64 x115002_3] 30 (0, 0)) (by exact BK114.out)) : gb114 ≠ gb127)); have n6_ := a0_ ((by rw [hg]; exact Nat.ne_of_gt (blk_lt (g := gb114) (o := .cells #[.int .i64 x115000_3, .int .i64 x115001_3, .int .i64 x115002_3] 30 (0, 0)) (by exact BK114.out)) : gb127 ≠ gb114)); clear BK114; clear HB HM; have BK114 := n0_; have HB := n1_; have HM := m1_; have BK127 := n2_; have GW127 := n3_; have GE127 := n4_; have GM127 := m4_; have NB114_127 := n5_; have NB127_114 := n6_; clear n0_ n1_ n2_ n3_ n4_ n5_ n6_ m1_ m4_; clear hb hbox hg; have hnb71 := NB127_114.out; have hnc71 := NB114_127.out; have hcz72_0 : w70.cell? ⟨gb127, 0, none⟩ = some (.string (⟨#[]⟩ : ByteArray)) := (blk_cell BK127.out 0).trans rfl; have hcz72_1 : w70.cell? ⟨gb127, 1, none⟩ = some (.string (⟨#[]⟩ : ByteArray)) := (blk_cell BK127.out 1).trans rfl; have hfz72_0 := kF_ BK127.out 0; have hfz72_1 := kF_ BK127.out 1) | ((with_reducible refine gate_callee (f := 23) rfl ?_); refine goesL_ (some 92) rfl rfl Try.func23 (by kernel_rfl) rfl #[.int .i64 (((rd_T36 l0 x81_3).f1).size : Int), .slice Am (ofl x81_3 l1).length cm] rfl (by (try simp only [List.map_toArray, List.map_cons, List.map_nil]); first | done | rfl | (simp only [List.length_drop, List.length_take]; rfl)) ?_; (refine (edit_Check.calls k3 (((rd_T36 l0 x81_3).f1).size : Int) _ _ (ofl x81_3 l1) t128 _ ?side1 ?side2 A64.out).mono ?_); (case side1 => exact (Kd.R_reads' (Kd.R_below HRm.out (by repeat (first | (with_reducible first | exact HM.out | apply bA_ | apply bN_ | apply bD_ | refine bS_ ?_ GM127.out) | exact HM.out)))).2.2); (case side2 => exact (Kd.R_reads' HRm.out).2.1); rintro e w73 ⟨rfl, hb⟩; refine ⟨_, rfl, ?_⟩; have n0_ := a0_ (kB_ (g := gb114) (o := .cells #[.int .i64 x115000_3, .int .i64 x115001_3, .int .i64 x115002_3] 30 (0, 0)) (by (with_reducible repeat (first | refine kN_ ?_ _ | refine kD_ ?_ | refine kA_ ?_ _)); refine blk_far ?_ NB114_127.out _; (with_reducible repeat (first | refine kN_ ?_ _ | refine kD_ ?_ | refine kA_ ?_ _)); refine blk_far ?_ NB114_127.out _; (with_reducible repeat (first | refine kN_ ?_ _ | refine kD_ ?_ | refine kA_ ?_ _)); exact BK114.out) hb); have n1_ := a0_ (kB_ (g := gb127) (o := .cells #[.string ((rd_T36 l0 x81_3).f0), .string ((rd_T36 l0 x81_3).f1)] 36 (0, 0)) (by (with_reducible repeat (first | refine kN_ ?_ _ | refine kD_ ?_ | refine kA_ ?_ _)); refine blk_put (cs := #[.string ((rd_T36 l0 x81_3).f0), .string (⟨#[]⟩ : ByteArray)]) ?_ 1 _ rfl; (with_reducible repeat (first | refine kN_ ?_ _ | refine kD_ ?_ | refine kA_ ?_ _)); refine blk_put (cs := #[.string (⟨#[]⟩ : ByteArray), .string (⟨#[]⟩ : ByteArray)]) ?_ 0 _ rfl; (with_reducible repeat (first | refine kN_ ?_ _ | refine kD_ ?_ | refine kA_ ?_ _)); exact BK127.out) hb); have n2_ := a0_ (bT_ (by repeat (first | (with_reducible first | exact HB.out | apply bA_ | apply bN_ | apply bD_ | refine bS_ ?_ GE114.out | refine bS_ ?_ GE127.out) | exact HB.out)) hb); have m2_ := a0_ (bT_ (by repeat (first | (with_reducible first | exact HM.out | apply bA_ | apply bN_ | apply bD_ | refine bS_ ?_ GM127.out) | exact HM.out)) hb); clear BK114; clear BK127; clear HB HM; have BK114 := n0_; have BK127 := n1_; have HB := n2_; have HM := m2_; clear n0_ n1_ n2_ m2_; (try clear hb); (try clear hb2); (try clear hk); (try clear hi); have hcz74_0 : w73.cell? ⟨gb114, 0, none⟩ = some (.int .i64 x115000_3) := (blk_cell BK114.out 0).trans rfl; have hcz74_1 : w73.cell? ⟨gb114, 1, none⟩ = some (.int .i64 x115001_3) := (blk_cell BK114.out 1).trans rfl; have hcz74_2 : w73.cell? ⟨gb114, 2, none⟩ = some (.int .i64 x115002_3) := (blk_cell BK114.out 2).trans rfl; have hfz74_0 := kF_ BK114.out 0; have hfz74_1 := kF_ BK114.out 1; have hfz74_2 := kF_ BK114.out 2))
             refine bodyPost_ret (results_tc rfl _ _ gb114 30 #[.int .i64 t128, .int .i64 x81_3, .int .i64 0] (0, 0) _ rfl (by (with_reducible repeat (first | refine kN_ ?_ _ | refine kD_ ?_ | refine kA_ ?_ _)); refine blk_put (cs := #[.int .i64 t128, .int .i64 x81_3, .int .i64 x115002_3]) ?_ 2 _ rfl; (with_reducible repeat (first | refine kN_ ?_ _ | refine kD_ ?_ | refine kA_ ?_ _)); refine blk_put (cs := #[.int .i64 t128, .int .i64 x115001_3, .int .i64 x115002_3]) ?_ 1 _ rfl; (with_reducible repeat (first | refine kN_ ?_ _ | refine kD_ ?_ | refine kA_ ?_ _)); refine blk_put (cs := #[.int .i64 x115000_3, .int .i64 x115001_3, .int .i64 x115002_3]) ?_ 0 _ rfl; (with_reducible repeat (first | refine kN_ ?_ _ | refine kD_ ?_ | refine kA_ ?_ _)); exact BK114.out) Try.underlying30 rfl (by kernel_rfl)) rfl ?_
             exact ⟨_, by first | rfl | (simp [errW_none, errW_some] <;> rfl) | (simp [*, errW_none, errW_some] <;> rfl), by repeat (first | (with_reducible first | exact HB.out | apply bA_ | apply bN_ | apply bD_ | refine bS_ ?_ GE114.out | refine bS_ ?_ GE127.out) | exact HB.out), fun h_ => absurd h_ c65⟩
           ·rw [if_neg c63] at H
            exact absurd H (by simp)
          ·rw [if_neg c62] at H
           exact absurd H (by simp)
         ·rw [if_neg c61] at H
          have c61b0 := decide_eq_false c61
          clear c61
          simp only [Option.some.injEq, Prod.mk.injEq] at H
          obtain ⟨rfl, rfl, rfl, rfl⟩ := H
          have hcz75_0 : wr.cell? ⟨gb114, 0, none⟩ = some (.int .i64 x115000_3) := (blk_cell BK114.out 0).trans rfl
          have hcz75_1 : wr.cell? ⟨gb114, 1, none⟩ = some (.int .i64 x115001_3) := (blk_cell BK114.out 1).trans rfl
          have hcz75_2 : wr.cell? ⟨gb114, 2, none⟩ = some (.int .i64 x115002_3) := (blk_cell BK114.out 2).trans rfl
          have hfz75_0 := kF_ BK114.out 0
          have hfz75_1 := kF_ BK114.out 1
          have hfz75_2 := kF_ BK114.out 2
          go_wp2
          refine bodyPost_ret (results_tc rfl _ _ gb114 30 #[.int .i64 0, .int .i64 0, .int .i64 0] (0, 0) _ rfl (by refine blk_put (cs := #[.int .i64 0, .int .i64 0, .int .i64 x115002_3]) ?_ 2 _ rfl; refine blk_put (cs := #[.int .i64 0, .int .i64 x115001_3, .int .i64 x115002_3]) ?_ 1 _ rfl; refine blk_put (cs := #[.int .i64 x115000_3, .int .i64 x115001_3, .int .i64 x115002_3]) ?_ 0 _ rfl; exact BK114.out) Try.underlying30 rfl (by kernel_rfl)) rfl ?_
          exact ⟨_, by first | rfl | (simp [errW_none, errW_some] <;> rfl) | (simp [*, errW_none, errW_some] <;> rfl), by repeat (first | (with_reducible first | exact HB.out | apply bA_ | apply bN_ | apply bD_ | refine bS_ ?_ GE114.out) | exact HB.out), by first | exact fun _ => ⟨w3.heap.size, nm_2, fm_2, rfl, HMS.out.set3 BK114.out _ _ _⟩ | exact ⟨w3.heap.size, rfl, nm_2, fm_2, HMS.out.set3 BK114.out _ _ _⟩⟩
end Go.Proofs.Ytclcnglamlegiaa.Trial
namespace Go.Proofs.Ytclcnglamlegiaa.Trial
open Go Go.RowKit Go.Proofs.YtclcnglamlegiaaW.PrintWords Go.Proofs.YtclcnglamlegiaaW.PrintLast Go.Proofs.YtclcnglamlegiaaW.PrintMore Go.Proofs.Ytclcnglamlegiaa.PMD Go.Proofs.Ytclcnglamlegiaa.MapV
attribute [local go_sem] max2_int min2_int max_two min_two max_three min_three max_four min_four   -- for this text's walks alone
attribute [local go_sem high] eqA30
set_option linter.unusedVariables false
set_option linter.unusedSimpArgs false
theorem MS.lower {w0 w00 w : World} {b n : Nat} {f : Int → Value} {L : List S34} (h : MS w0 w b n f L) (hs : w00.heap.size ≤ w0.heap.size) : MS w00 w b n f L :=
 ⟨h.m, fun i => Kd.R_lower (h.rows i) hs, h.ap, Nat.le_trans hs h.lm⟩
theorem MS.farR {w0 w : World} {b n : Nat} {f : Int → Value} {L : List S34} (h : MS w0 w b n f L) {K : Kd (S36)} {q : TypeId} {xs : List (S36)} {base : Nat} {ok : Nat → Prop} {v : Value} (hr : Kd.R K q w base ok v xs) (ht : 58 ≠ q) (g : Nat) (hg : v.ownBlock = some g) (o : Nat) (x : Value) : MS w0 (w.setCell ⟨g, o, none⟩ x) b n f L := by
 obtain ⟨cs, hc⟩ := Kd.R_typed hr g hg
 exact h.far hc ht o x
/-! ### trial_Apply: function 32 -/
def trial_Apply.l0 : Nat → List (S34) → List (S36) → List (S36) → Int → Int → Option ((List (S36)) × Int × Int × Int)
 | 0, _, _, _, _, _ => none
 | k + 1, L, x0, x8, x23, x24 => if x24 < x23 then (if 0 ≤ x24 then (if x24 < (x0.length : Int) then ((edit_Apply.f k ((rd_T36 x0 x24).f1) (ofl x24 L)).bind fun bt139 => (if x24 < (x8.length : Int) then (trial_Apply.l0 k L x0 (x8.set (x24 : Int).toNat (⟨(rd_T36 x8 x24).f0, bt139.1⟩ : S36)) x23 (wrap64 (x24 + 1))) else (none))) else (none)) else (none)) else (some (x8, 0, 0, 0))
def trial_Apply.f (k : Nat) (l0 : List (S36)) (l1 : List (S34)) : Option ((List (S36)) × Int × Int × Int) := if l0.length ≤ 1000000 ∧ l1.length ≤ 1000000 then (trial_edits.f k l0 l1).bind fun bt130 => (if (!(bt130.2.1 == 0) || (!(bt130.2.2.1 == 0) || (!(bt130.2.2.2 == 0)))) = true then (some (([] : List (S36)), bt130.2.1, bt130.2.2.1, bt130.2.2.2)) else ((api_File.f l0).bind fun t135 => (trial_Apply.l0 k l1 l0 t135 (t135.length : Int) 0))) else none
theorem trial_Apply.mono_l : ∀ k, (∀ y0 y1 y2 y3 y4, LeO (trial_Apply.l0 k y0 y1 y2 y3 y4) (trial_Apply.l0 (k + 1) y0 y1 y2 y3 y4))
 | 0 => fun _ _ _ _ _ r h => by simp [trial_Apply.l0] at h
 | k + 1 => by
  have ih0 := trial_Apply.mono_l k
  ·intro y0 y1 y2 y3 y4
   unfold trial_Apply.l0
   repeat' first
   | (with_reducible exact ih0 _ _ _ _ _)
   | (with_reducible exact edit_Apply.mono _ _ _)
   | (with_reducible exact trial_edits.mono _ _ _)
   | (with_reducible exact LeO.refl _)
   | (with_reducible exact LeO.none _)
   | (with_reducible refine LeO.ite ?_ ?_)
   | (with_reducible refine LeO.bind ?_ (fun _ => ?_))
   | exact ih0 _ _ _ _ _
   | exact edit_Apply.mono _ _ _
   | exact trial_edits.mono _ _ _
   | exact LeO.none _
   | refine LeO.ite ?_ ?_
   | refine LeO.bind ?_ (fun _ => ?_)
theorem trial_Apply.mono : ∀ a0 a1 k, LeO (trial_Apply.f k a0 a1) (trial_Apply.f (k + 1) a0 a1) := by
 intro a0 a1 k
 have ih0 := trial_Apply.mono_l k
 unfold trial_Apply.f
 repeat' first
   | (with_reducible exact ih0 _ _ _ _ _)
   | (with_reducible exact edit_Apply.mono _ _ _)
   | (with_reducible exact trial_edits.mono _ _ _)
   | (with_reducible exact LeO.refl _)
   | (with_reducible exact LeO.none _)
   | (with_reducible refine LeO.ite ?_ ?_)
   | (with_reducible refine LeO.bind ?_ (fun _ => ?_))
   | exact ih0 _ _ _ _ _
   | exact edit_Apply.mono _ _ _
   | exact trial_edits.mono _ _ _
   | exact LeO.none _
   | refine LeO.ite ?_ ?_
   | refine LeO.bind ?_ (fun _ => ?_)
set_option maxHeartbeats 8000000 in
set_option maxRecDepth 100000 in
theorem trial_Apply.calls (k : Nat) (A0 : Option Addr) (c0 : Nat) (l0 : List (S36)) (A1 : Option Addr) (c1 : Nat) (l1 : List (S34)) (r1 : List (S36)) (r2 : Int) (r3 : Int) (r4 : Int) (w : World) (hr0 : Kd.C k36 w A0 l0.length l0) (hc0 : l0.length ≤ c0) (hr1 : Kd.C k34 w A1 l1.length l1) (hc1 : l1.length ≤ c1) (h : trial_Apply.f k l0 l1 = some (r1, r2, r3, r4)) :
  Calls Try.prog 32 #[.slice A0 l0.length c0, .slice A1 l1.length c1] w fun e w' => ∃ v0_ : Value, e = .returned (.tuple #[v0_, .agg #[.int .i64 r2, .int .i64 r3, .int .i64 r4]]) ∧ Kd.R k36 36 w' w.heap.size (fun _ => True) v0_ r1 ∧ Below w.heap.size w w' := by
 by_cases LL : l0.length ≤ 1000000 ∧ l1.length ≤ 1000000
 case neg => unfold trial_Apply.f at h; rw [if_neg LL] at h; exact absurd h (by simp)
 unfold trial_Apply.f at h; rw [if_pos LL] at h
 have LA := a0_ LL
 clear LL
 have hu30 := Try.underlying30
 have HR0 := a0_ hr0
 have HC0 := a0_ hc0
 clear hr0 hc0
 have HR1 := a0_ hr1
 have HC1 := a0_ hc1
 clear hr1 hc1
 have HB := a0_ (Below.refl w.heap.size w)
 have H : ((trial_edits.f k l0 l1).bind fun bt130 => (if (!(bt130.2.1 == 0) || (!(bt130.2.2.1 == 0) || (!(bt130.2.2.2 == 0)))) = true then (some (([] : List (S36)), bt130.2.1, bt130.2.2.1, bt130.2.2.2)) else ((api_File.f l0).bind fun t135 => (trial_Apply.l0 k l1 l0 t135 (t135.length : Int) 0)))) = some (r1, r2, r3, r4) := h
 clear h
 replace H := ob_ H
 obtain ⟨⟨t130, t131, t132, t133⟩, A30, H⟩ := H
 replace H : (if (!(t131 == 0) || (!(t132 == 0) || (!(t133 == 0)))) = true then (some (([] : List (S36)), t131, t132, t133)) else ((api_File.f l0).bind fun t135 => (trial_Apply.l0 k l1 l0 t135 (t135.length : Int) 0))) = some (r1, r2, r3, r4) := H
 have A3 := a0_ A30
 clear A30
 by_cases c4 : (!(t131 == 0) || (!(t132 == 0) || (!(t133 == 0)))) = true
 ·rw [if_pos c4] at H
  have c4b0 : (!(t131 == 0) || (!(t132 == 0) || (!(t133 == 0)))) = true := c4
  clear c4
  simp only [Option.some.injEq, Prod.mk.injEq] at H
  obtain ⟨rfl, rfl, rfl, rfl⟩ := H
  go_enter Try.func32, Try.ntmps32
  try go_wp2_with (first | ((with_reducible refine gate_dst (N := 5) rfl ?_); refine box_event ?hg (N := 5) ?hd (cs := #[.int .i64 0, .int .i64 0, .int .i64 0]) (t := 30) ?hr ?_; (case hd => rfl); (case hg => rfl); (case hr => first | (go_simp; done) | (go_simp; rfl)); intro gb129 hg w5 hbox hb; have BK129 := a0_ (hbox); have GW129 := a0_ ((by rw [hg]; exact (bZ_ (by exact HB.out)) : w.heap.size ≤ gb129)); have GE129 := a0_ ((by rw [hg]; exact (bZ_ (by exact HB.out)) : w.heap.size ≤ gb129)); replace HB := a0_ (bT_ (by exact HB.out) hb); clear hb hbox hg) | ((with_reducible refine gate_callee (f := 38) rfl ?_); refine goesL_ (some 13) rfl rfl Try.func38 (by kernel_rfl) rfl #[.slice A0 l0.length c0, .slice A1 l1.length c1] rfl (by (try simp only [List.map_toArray, List.map_cons, List.map_nil]); first | done | rfl | (simp only [List.length_drop, List.length_take]; rfl)) ?_; (with_reducible refine (trial_edits.calls k _ _ l0 _ _ l1 t130 t131 t132 t133 _ ?side1 ?side2 ?side3 ?side4 LA.out.1 LA.out.2 A3.out).mono ?_); (case side1 => repeat (first | exact (Kd.C_below HR0.out HB.out) | (with_reducible refine Kd.C_alloc ?_ _) | (with_reducible refine Kd.C_drewN ?_ _) | (with_reducible refine Kd.C_drew ?_))); (case side2 => exact HC0.out); (case side3 => repeat (first | exact (Kd.C_below HR1.out HB.out) | (with_reducible refine Kd.C_alloc ?_ _) | (with_reducible refine Kd.C_drewN ?_ _) | (with_reducible refine Kd.C_drew ?_))); (case side4 => exact HC1.out); rintro e w6 ⟨vm, rfl, hb, -⟩; refine ⟨_, rfl, ?_⟩; replace BK129 := a0_ (kB_ (g := gb129) (o := .cells #[.int .i64 0, .int .i64 0, .int .i64 0] 30 (0, 0)) (by exact BK129.out) hb); replace HB := a0_ (bT_ (by exact HB.out) hb); (try clear hb); (try clear hb2); (try clear hk); (try clear hi)) | ((with_reducible refine gate_dst (N := 7) rfl ?_); refine box_event ?hg (N := 7) ?hd (cs := #[.int .i64 0, .int .i64 0, .int .i64 0]) (t := 30) ?hr ?_; (case hd => rfl); (case hg => rfl); (case hr => first | (go_simp; done) | (go_simp; rfl)); intro gb134 hg w7 hbox hb; have BK134 := a0_ (hbox); have GW134 := a0_ ((by rw [hg]; exact (bZ_ (by exact HB.out)) : w.heap.size ≤ gb134)); have GE134 := a0_ ((by rw [hg]; exact (bZ_ (by exact HB.out)) : w.heap.size ≤ gb134)); replace HB := a0_ (bT_ (by exact HB.out) hb); have NB129_134 := a0_ ((by rw [hg]; exact Nat.ne_of_lt (blk_lt (g := gb129) (o := .cells #[.int .i64 0, .int .i64 0, .int .i64 0] 30 (0, 0)) (by exact BK129.out)) : gb129 ≠ gb134)); have NB134_129 := a0_ ((by rw [hg]; exact Nat.ne_of_gt (blk_lt (g := gb129) (o := .cells #[.int .i64 0, .int .i64 0, .int .i64 0] 30 (0, 0)) (by exact BK129.out)) : gb134 ≠ gb129)); replace BK129 := a0_ (kB_ (g := gb129) (o := .cells #[.int .i64 0, .int .i64 0, .int .i64 0] 30 (0, 0)) (by exact BK129.out) hb); clear hb hbox hg; have hnb8 := NB134_129.out; have hnc8 := NB129_134.out; have hcz9_0 : w7.cell? ⟨gb134, 0, none⟩ = some (.int .i64 0) := (blk_cell BK134.out 0).trans rfl; have hcz9_1 : w7.cell? ⟨gb134, 1, none⟩ = some (.int .i64 0) := (blk_cell BK134.out 1).trans rfl; have hcz9_2 : w7.cell? ⟨gb134, 2, none⟩ = some (.int .i64 0) := (blk_cell BK134.out 2).trans rfl; have hfz9_0 := kF_ BK134.out 0; have hfz9_1 := kF_ BK134.out 1; have hfz9_2 := kF_ BK134.out 2))
  replace BK129 : Aside0 ((((w7.setCell ⟨gb134, 0, none⟩ (.int .i64 t131)).setCell ⟨gb134, 1, none⟩ (.int .i64 t132)).setCell ⟨gb134, 2, none⟩ (.int .i64 t133)).heap[gb129]? = some (.cells #[.int .i64 0, .int .i64 0, .int .i64 0] 30 (0, 0))) := ⟨by (with_reducible repeat (first | refine kN_ ?_ _ | refine kD_ ?_ | refine kA_ ?_ _)); refine blk_far ?_ NB129_134.out _; (with_reducible repeat (first | refine kN_ ?_ _ | refine kD_ ?_ | refine kA_ ?_ _)); refine blk_far ?_ NB129_134.out _; (with_reducible repeat (first | refine kN_ ?_ _ | refine kD_ ?_ | refine kA_ ?_ _)); refine blk_far ?_ NB129_134.out _; (with_reducible repeat (first | refine kN_ ?_ _ | refine kD_ ?_ | refine kA_ ?_ _)); exact BK129.out⟩
  replace BK134 : Aside0 ((((w7.setCell ⟨gb134, 0, none⟩ (.int .i64 t131)).setCell ⟨gb134, 1, none⟩ (.int .i64 t132)).setCell ⟨gb134, 2, none⟩ (.int .i64 t133)).heap[gb134]? = some (.cells #[.int .i64 t131, .int .i64 t132, .int .i64 t133] 30 (0, 0))) := ⟨by refine blk_put (cs := #[.int .i64 t131, .int .i64 t132, .int .i64 0]) ?_ 2 _ rfl; refine blk_put (cs := #[.int .i64 t131, .int .i64 0, .int .i64 0]) ?_ 1 _ rfl; refine blk_put (cs := #[.int .i64 0, .int .i64 0, .int .i64 0]) ?_ 0 _ rfl; exact BK134.out⟩
  replace HB : Aside0 (Below w.heap.size w (((w7.setCell ⟨gb134, 0, none⟩ (.int .i64 t131)).setCell ⟨gb134, 1, none⟩ (.int .i64 t132)).setCell ⟨gb134, 2, none⟩ (.int .i64 t133))) := ⟨by repeat (first | (with_reducible first | exact HB.out | apply bA_ | apply bN_ | apply bD_ | refine bS_ ?_ GE129.out | refine bS_ ?_ GE134.out) | exact HB.out)⟩
  generalize (((w7.setCell ⟨gb134, 0, none⟩ (.int .i64 t131)).setCell ⟨gb134, 1, none⟩ (.int .i64 t132)).setCell ⟨gb134, 2, none⟩ (.int .i64 t133)) = w10 at BK129 BK134 HB ⊢
  replace BK129 := a0_ (kD_ BK129.out)
  replace BK134 := a0_ (kD_ BK134.out)
  replace HB := a0_ (bD_ HB.out)
  refine start_ (n := 3) (S := fun w' => w'.cell? ⟨gb134, 0, none⟩ = some (.int .i64 t131) ∧ w'.cell? ⟨gb134, 1, none⟩ = some (.int .i64 t132) ∧ w'.cell? ⟨gb134, 2, none⟩ = some (.int .i64 t133)) (ds := []) #[false, false, false] (by kernel_rfl) rfl rfl ⟨(blk_cell BK134.out 0).trans rfl, (blk_cell BK134.out 1).trans rfl, (blk_cell BK134.out 2).trans rfl⟩ (fun hHeld => ?_)
  generalize w10.drew = w11 at BK129 BK134 HB hHeld ⊢
  refine pure_ (i := 1) (N := some 4) #[false, true, false] rfl rfl (by kernel_rfl) (fun _ _ _ h => h) (Or.inl ⟨by rfl, fun w' => by go_simp; with_reducible rfl⟩) (by simp only [ps_]; rfl) ?_
  refine take_ (i := 0) (N := some 19) (v := ?_) (a' := ?_) #[true, true, false] rfl rfl (by kernel_rfl) (fun _ _ _ h => h) (Or.inl ⟨by rfl, ?_⟩) hHeld ?_ ?_
  rotate_left
  ·rintro w' ⟨s0, s1, s2⟩
   go_simp
   with_reducible rfl
  rotate_left
  ·simp only [ps_]
   rfl
  refine one_ (i := 2) (N := none) #[true, true, true] rfl rfl (by kernel_rfl) (by decide) (fun K hK => ?_)
  have hs12 : w11.cell? ⟨gb129, 0, none⟩ = some (.int .i64 0) := (blk_cell BK129.out 0).trans rfl
  have hfs12 := kF_ BK129.out 0
  have hns12_1 := NB134_129.out
  have hms12_1 := NB129_134.out
  have hs13 : w11.cell? ⟨gb129, 1, none⟩ = some (.int .i64 0) := (blk_cell BK129.out 1).trans rfl
  have hfs13 := kF_ BK129.out 1
  have hns13_1 := NB134_129.out
  have hms13_1 := NB129_134.out
  have hs14 : w11.cell? ⟨gb129, 2, none⟩ = some (.int .i64 0) := (blk_cell BK129.out 2).trans rfl
  have hfs14 := kF_ BK129.out 2
  have hns14_1 := NB134_129.out
  have hms14_1 := NB129_134.out
  refine skip_ (w1 := ?_) (by rfl) rfl ?_ ?_
  rotate_left
  ·go_simp
   rfl
  refine hK.out _ _ ⟨((cell_far (p := ⟨gb129, _, none⟩) NB134_129.out _).trans (((cell_far (p := ⟨gb129, _, none⟩) NB134_129.out _).trans (((cell_far (p := ⟨gb129, _, none⟩) NB134_129.out _).trans (hHeld.1)))))), ((cell_far (p := ⟨gb129, _, none⟩) NB134_129.out _).trans (((cell_far (p := ⟨gb129, _, none⟩) NB134_129.out _).trans (((cell_far (p := ⟨gb129, _, none⟩) NB134_129.out _).trans (hHeld.2.1)))))), ((cell_far (p := ⟨gb129, _, none⟩) NB134_129.out _).trans (((cell_far (p := ⟨gb129, _, none⟩) NB134_129.out _).trans (((cell_far (p := ⟨gb129, _, none⟩) NB134_129.out _).trans (hHeld.2.2))))))⟩ (fun hHeld => ?_)
  clear hK K
  refine done_ (by kernel_rfl) ?_
  try go_wp2
  refine bodyPost_ret (results_tc rfl _ _ gb129 30 #[.int .i64 t131, .int .i64 t132, .int .i64 t133] (0, 0) _ rfl (by (with_reducible repeat (first | refine kN_ ?_ _ | refine kD_ ?_ | refine kA_ ?_ _)); refine blk_put (cs := #[.int .i64 t131, .int .i64 t132, .int .i64 0]) ?_ 2 _ rfl; (with_reducible repeat (first | refine kN_ ?_ _ | refine kD_ ?_ | refine kA_ ?_ _)); refine blk_put (cs := #[.int .i64 t131, .int .i64 0, .int .i64 0]) ?_ 1 _ rfl; (with_reducible repeat (first | refine kN_ ?_ _ | refine kD_ ?_ | refine kA_ ?_ _)); refine blk_put (cs := #[.int .i64 0, .int .i64 0, .int .i64 0]) ?_ 0 _ rfl; (with_reducible repeat (first | refine kN_ ?_ _ | refine kD_ ?_ | refine kA_ ?_ _)); exact BK129.out) Try.underlying30 rfl (by kernel_rfl)) rfl ?_
  exact ⟨_, by first | rfl | (simp [errW_none, errW_some] <;> rfl) | (simp [*, errW_none, errW_some] <;> rfl), by first | exact Kd.R_nil _ _ _ _ _ | exact Kd.N_nil _ _ _ _ _ | exact Kd.V_nil _ _ _ _ _ | exact Kd.Q_nil _ _ _ _ _ | exact Kd.S_nil _ _ _ _ _, by repeat (first | (with_reducible first | exact HB.out | apply bA_ | apply bN_ | apply bD_ | refine bS_ ?_ GE129.out | refine bS_ ?_ GE134.out) | exact HB.out)⟩
 ·rw [if_neg c4] at H
  have c4b0 : (!(t131 == 0) || (!(t132 == 0) || (!(t133 == 0)))) = false := by simpa using c4
  have z131 : Aside0 (t131 = 0) := ⟨by have h_ := c4b0; simp at h_; exact h_.1⟩
  clear c4
  replace H := ob_ H
  obtain ⟨t135, A150, H⟩ := H
  replace H : (trial_Apply.l0 k l1 l0 t135 (t135.length : Int) 0) = some (r1, r2, r3, r4) := H
  have A15 := a0_ A150
  clear A150
  have H' := a0_ H
  clear H
  go_enter Try.func32, Try.ntmps32
  go_wp2_with (first | ((with_reducible refine gate_dst (N := 5) rfl ?_); refine box_event ?hg (N := 5) ?hd (cs := #[.int .i64 0, .int .i64 0, .int .i64 0]) (t := 30) ?hr ?_; (case hd => rfl); (case hg => rfl); (case hr => first | (go_simp; done) | (go_simp; rfl)); intro gb129 hg w16 hbox hb; have BK129 := a0_ (hbox); have GW129 := a0_ ((by rw [hg]; exact (bZ_ (by exact HB.out)) : w.heap.size ≤ gb129)); have GE129 := a0_ ((by rw [hg]; exact (bZ_ (by exact HB.out)) : w.heap.size ≤ gb129)); replace HB := a0_ (bT_ (by exact HB.out) hb); clear hb hbox hg) | ((with_reducible refine gate_callee (f := 38) rfl ?_); refine goesL_ (some 13) rfl rfl Try.func38 (by kernel_rfl) rfl #[.slice A0 l0.length c0, .slice A1 l1.length c1] rfl (by (try simp only [List.map_toArray, List.map_cons, List.map_nil]); first | done | rfl | (simp only [List.length_drop, List.length_take]; rfl)) ?_; (with_reducible refine (trial_edits.calls k _ _ l0 _ _ l1 t130 t131 t132 t133 _ ?side1 ?side2 ?side3 ?side4 LA.out.1 LA.out.2 A3.out).mono ?_); (case side1 => repeat (first | exact (Kd.C_below HR0.out HB.out) | (with_reducible refine Kd.C_alloc ?_ _) | (with_reducible refine Kd.C_drewN ?_ _) | (with_reducible refine Kd.C_drew ?_))); (case side2 => exact HC0.out); (case side3 => repeat (first | exact (Kd.C_below HR1.out HB.out) | (with_reducible refine Kd.C_alloc ?_ _) | (with_reducible refine Kd.C_drewN ?_ _) | (with_reducible refine Kd.C_drew ?_))); (case side4 => exact HC1.out); rintro e w17 ⟨vm, rfl, hb, hms⟩; obtain ⟨gm, nm, fm, rfl, hms2⟩ := hms z131.out; have HMS := a0_ (hms2.lower (bZ_ (by exact HB.out))); have HM := a0_ (Below.refl w17.heap.size w17); clear hms hms2; refine ⟨_, rfl, ?_⟩; replace BK129 := a0_ (kB_ (g := gb129) (o := .cells #[.int .i64 0, .int .i64 0, .int .i64 0] 30 (0, 0)) (by exact BK129.out) hb); replace HB := a0_ (bT_ (by exact HB.out) hb); (try clear hb); (try clear hb2); (try clear hk); (try clear hi)) | ((with_reducible refine gate_dst (N := 7) rfl ?_); refine box_event ?hg (N := 7) ?hd (cs := #[.int .i64 0, .int .i64 0, .int .i64 0]) (t := 30) ?hr ?_; (case hd => rfl); (case hg => rfl); (case hr => first | (go_simp; done) | (go_simp; rfl)); intro gb134 hg w18 hbox hb; have BK134 := a0_ (hbox); have GW134 := a0_ ((by rw [hg]; exact (bZ_ (by exact HB.out)) : w.heap.size ≤ gb134)); have GE134 := a0_ ((by rw [hg]; exact (bZ_ (by exact HB.out)) : w.heap.size ≤ gb134)); replace HB := a0_ (bT_ (by exact HB.out) hb); have NB129_134 := a0_ ((by rw [hg]; exact Nat.ne_of_lt (blk_lt (g := gb129) (o := .cells #[.int .i64 0, .int .i64 0, .int .i64 0] 30 (0, 0)) (by exact BK129.out)) : gb129 ≠ gb134)); have NB134_129 := a0_ ((by rw [hg]; exact Nat.ne_of_gt (blk_lt (g := gb129) (o := .cells #[.int .i64 0, .int .i64 0, .int .i64 0] 30 (0, 0)) (by exact BK129.out)) : gb134 ≠ gb129)); replace BK129 := a0_ (kB_ (g := gb129) (o := .cells #[.int .i64 0, .int .i64 0, .int .i64 0] 30 (0, 0)) (by exact BK129.out) hb); have m0_ := a0_ (bT_ (by repeat (first | (with_reducible first | exact HM.out | apply bA_ | apply bN_ | apply bD_) | exact HM.out)) hb); have GM134 := a0_ ((by rw [hg]; exact (bZ_ (by repeat (first | (with_reducible first | exact HM.out | apply bA_ | apply bN_ | apply bD_) | exact HM.out)))) : w17.heap.size ≤ gb134); clear HM; have HM := m0_; clear m0_; clear hb hbox hg; have hnb19 := NB134_129.out; have hnc19 := NB129_134.out; have hcz20_0 : w18.cell? ⟨gb134, 0, none⟩ = some (.int .i64 0) := (blk_cell BK134.out 0).trans rfl; have hcz20_1 : w18.cell? ⟨gb134, 1, none⟩ = some (.int .i64 0) := (blk_cell BK134.out 1).trans rfl; have hcz20_2 : w18.cell? ⟨gb134, 2, none⟩ = some (.int .i64 0) := (blk_cell BK134.out 2).trans rfl; have hfz20_0 := kF_ BK134.out 0; have hfz20_1 := kF_ BK134.out 1; have hfz20_2 := kF_ BK134.out 2) | ((with_reducible refine gate_callee (f := 28) rfl ?_); refine goesL_ (some 21) rfl rfl Try.func28 (by kernel_rfl) rfl #[.slice A0 l0.length c0] rfl (by (try simp only [List.map_toArray, List.map_cons, List.map_nil]); first | done | rfl | (simp only [List.length_drop, List.length_take]; rfl)) ?_; (with_reducible refine (api_File.calls _ _ l0 t135 _ ?side1 ?side2 A15.out).mono ?_); (case side1 => exact Kd.C_below HR0.out (by repeat (first | (with_reducible first | exact HB.out | apply bA_ | apply bN_ | apply bD_ | refine bS_ ?_ GE129.out | refine bS_ ?_ GE134.out) | exact HB.out))); (case side2 => exact HC0.out); rintro e w21 ⟨v136, rfl, ho0, hb⟩; refine ⟨_, rfl, ?_⟩; have n0_ := a0_ (Kd.R_lower ho0 (bZ_ (by repeat (first | (with_reducible first | exact HB.out | apply bA_ | apply bN_ | apply bD_ | refine bS_ ?_ GE129.out | refine bS_ ?_ GE134.out) | exact HB.out)))); have n1_ := a0_ (kB_ (g := gb129) (o := .cells #[.int .i64 0, .int .i64 0, .int .i64 0] 30 (0, 0)) (by (with_reducible repeat (first | refine kN_ ?_ _ | refine kD_ ?_ | refine kA_ ?_ _)); refine blk_far ?_ NB129_134.out _; (with_reducible repeat (first | refine kN_ ?_ _ | refine kD_ ?_ | refine kA_ ?_ _)); refine blk_far ?_ NB129_134.out _; (with_reducible repeat (first | refine kN_ ?_ _ | refine kD_ ?_ | refine kA_ ?_ _)); refine blk_far ?_ NB129_134.out _; (with_reducible repeat (first | refine kN_ ?_ _ | refine kD_ ?_ | refine kA_ ?_ _)); exact BK129.out) hb); have n2_ := a0_ (kB_ (g := gb134) (o := .cells #[.int .i64 t131, .int .i64 t132, .int .i64 t133] 30 (0, 0)) (by (with_reducible repeat (first | refine kN_ ?_ _ | refine kD_ ?_ | refine kA_ ?_ _)); refine blk_put (cs := #[.int .i64 t131, .int .i64 t132, .int .i64 0]) ?_ 2 _ rfl; (with_reducible repeat (first | refine kN_ ?_ _ | refine kD_ ?_ | refine kA_ ?_ _)); refine blk_put (cs := #[.int .i64 t131, .int .i64 0, .int .i64 0]) ?_ 1 _ rfl; (with_reducible repeat (first | refine kN_ ?_ _ | refine kD_ ?_ | refine kA_ ?_ _)); refine blk_put (cs := #[.int .i64 0, .int .i64 0, .int .i64 0]) ?_ 0 _ rfl; (with_reducible repeat (first | refine kN_ ?_ _ | refine kD_ ?_ | refine kA_ ?_ _)); exact BK134.out) hb); have n3_ := a0_ (bT_ (by repeat (first | (with_reducible first | exact HB.out | apply bA_ | apply bN_ | apply bD_ | refine bS_ ?_ GE129.out | refine bS_ ?_ GE134.out) | exact HB.out)) hb); have m0_ := a0_ (bT_ (by repeat (first | (with_reducible first | exact HM.out | apply bA_ | apply bN_ | apply bD_ | refine bS_ ?_ GM134.out) | exact HM.out)) hb); clear HM; have HM := m0_; clear m0_; clear BK129; clear BK134; clear HB; have HO137 := n0_; have BK129 := n1_; have BK134 := n2_; have HB := n3_; clear n0_ n1_ n2_ n3_; (try clear hb); (try clear hb2); (try clear hk); (try clear hi); (try clear ho0); obtain ⟨Ao22, co22, eo22⟩ := Kd.R_slice HO137.out; subst eo22))
  have HMS0 := a0_ (HMS.out.below (by repeat (first | (with_reducible first | exact HM.out | apply bA_ | apply bN_ | apply bD_ | refine bS_ ?_ GM134.out) | exact HM.out)))
  clear HM HMS GM134
  go_loopg [24] k (fun kq v24 w' => ∃ (x8_1 : List (S36)) (x24_1 : Int), v24 = .int .i64 x24_1 ∧ Aside0 (trial_Apply.l0 kq l1 l0 x8_1 (t135.length : Int) x24_1 = some (r1, r2, r3, r4)) ∧ Aside0 (kq ≤ k) ∧ Aside0 (Kd.R k36 36 w' w.heap.size (fun _ => True) (.slice Ao22 t135.length co22) x8_1) ∧ Aside0 (w'.heap[gb129]? = some (.cells #[.int .i64 0, .int .i64 0, .int .i64 0] 30 (0, 0))) ∧ Aside0 (w'.heap[gb134]? = some (.cells #[.int .i64 t131, .int .i64 t132, .int .i64 t133] 30 (0, 0))) ∧ Aside0 (Below w.heap.size w w') ∧ Aside0 (MS w w' gm nm fm l1))
  case atStart => exact ⟨(t135), (0), (by first | rfl | (simp; done) | (simp [*]; done)), H', ⟨Nat.le_refl _⟩, ⟨by exact HO137.out⟩, ⟨by exact BK129.out⟩, ⟨by exact BK134.out⟩, ⟨by exact HB.out⟩, ⟨HMS0.out.below (by repeat (first | (with_reducible first | exact Below.refl _ _ | apply bA_ | apply bN_ | apply bD_) | exact Below.refl _ _))⟩⟩
  case round =>
   clear H'
   clear HMS0
   obtain ⟨x8_1, x24_1, rfl, HA, HK1, HO_8, BK129, BK134, HB, HMS⟩ := hrel
   have HM := a0_ (Below.refl wr.heap.size wr)
   have hl8_1 := (Kd.R_reads' HO_8.out).1
   rw [hl8_1] at HO_8
   (try simp only [hl8_1])
   (try simp only [hl8_1] at BK129)
   (try simp only [hl8_1] at BK134)
   cases gk with
   | zero => exact absurd HA.out (by simp [trial_Apply.l0])
   | succ k1 =>
    have H := HA.out
    clear HA
    simp only [trial_Apply.l0] at H
    by_cases c23 : x24_1 < (t135.length : Int)
    ·rw [if_pos c23] at H
     have c23b0 : decide (x24_1 < (t135.length : Int)) = true := decide_eq_true c23
     clear c23
     by_cases c24 : 0 ≤ x24_1
     ·rw [if_pos c24] at H
      have c24b0 : decide (0 ≤ x24_1) = true := decide_eq_true c24
      clear c24
      by_cases c25 : x24_1 < (l0.length : Int)
      ·rw [if_pos c25] at H
       have c25b0 : decide (x24_1 < (l0.length : Int)) = true := decide_eq_true c25
       clear c25
       replace H := ob_ H
       obtain ⟨⟨t139, t140⟩, A260, H⟩ := H
       replace H : (if x24_1 < (x8_1.length : Int) then (trial_Apply.l0 k1 l1 l0 (x8_1.set (x24_1 : Int).toNat (⟨(rd_T36 x8_1 x24_1).f0, t139⟩ : S36)) (t135.length : Int) (wrap64 (x24_1 + 1))) else (none)) = some (r1, r2, r3, r4) := H
       have A26 := a0_ A260
       clear A260
       by_cases c27 : x24_1 < (x8_1.length : Int)
       ·rw [if_pos c27] at H
        have c27b0 : decide (x24_1 < (x8_1.length : Int)) = true := decide_eq_true c27
        clear c27
        obtain ⟨y141, hy141⟩ : ∃ y_ : List (S36), y_ = (x8_1.set (x24_1 : Int).toNat (⟨(rd_T36 x8_1 x24_1).f0, t139⟩ : S36)) := ⟨_, rfl⟩
        replace H : (trial_Apply.l0 k1 l1 l0 y141 (t135.length : Int) (wrap64 (x24_1 + 1))) = some (r1, r2, r3, r4) := by first | (rw [hy141]; with_reducible exact H) | (have H2_ := (Option.bind_some _ _).symm.trans H; rw [hy141]; with_reducible exact H2_) | (have H2_ := (Option.bind_some _ _).symm.trans H; with_reducible exact H2_) | with_reducible exact H | (rw [hy141]; exact H) | exact H
        have Ny141 := a0_ hy141
        clear hy141
        have H' := a0_ H
        clear H
        try go_wp2
        have n0_ := a0_ (Kd.R_drew HO_8.out)
        have n1_ := a0_ (kD_ BK129.out)
        have n2_ := a0_ (kD_ BK134.out)
        have n3_ := a0_ (bD_ HB.out)
        have m3_ := a0_ (bD_ HM.out)
        clear HM
        have HM := m3_
        clear m3_
        clear HO_8
        clear BK129
        clear BK134
        clear HB
        have HO_8 := n0_
        have BK129 := n1_
        have BK134 := n2_
        have HB := n3_
        clear n0_ n1_ n2_ n3_
        have p138 : 0 ≤ (x24_1 : Int) := od_ (by first | (with_reducible assumption) | assumption)
        have q138 : x24_1 < (l0.length : Int) := od_ (by first | (with_reducible assumption) | assumption)
        obtain ⟨ad138, e138, hx138_0, hx138_1⟩ := at_T36 HR0.out x24_1 p138 q138
        have hw138_1 := hx138_1
        have hw138_0 := hx138_0
        cases e138
        replace hx138_0 := (HB.out.cell (bl_ w _ hx138_0)).trans hx138_0
        replace hx138_1 := (HB.out.cell (bl_ w _ hx138_1)).trans hx138_1
        replace p138 := eq_true p138
        replace q138 := eq_true q138
        obtain ⟨Am, cm, em⟩ := Kd.R_slice (HMS.out.rows x24_1)
        have HRm := HMS.out.rows x24_1
        rw [em] at HRm
        replace HRm := a0_ HRm
        have hk0 : 0 ≤ x24_1 := of_eq_true p138
        have hk1 : x24_1 < 2000000 := by have h1_ := of_eq_true q138; have h2_ := LA.out.1; omega
        refine start_ (n := 17) (S := fun w' => w'.cell? (ad138.add ((x24_1).toNat * 2)) = some (.string ((rd_T36 l0 x24_1).f0)) ∧ w'.cell? ⟨(ad138.add ((x24_1).toNat * 2)).block, (ad138.add ((x24_1).toNat * 2)).off + 1, none⟩ = some (.string ((rd_T36 l0 x24_1).f1)) ∧ MapAt Try.prog 3 w' gm nm (.slice none 0 0) fm) (ds := [16]) #[false, false, false, false, false, false, false, false, false, false, false, false, false, false, false, false, false] (by kernel_rfl) rfl rfl ⟨((HB.out.cell (bl_ w _ hw138_0)).trans hw138_0), ((HB.out.cell (bl_ w _ hw138_1)).trans hw138_1), (HMS.out.below HM.out).m⟩ (fun hHeld => ?_)
        generalize wr.drew = w29 at HM HO_8 BK129 BK134 HB hx138_0 hx138_1 hHeld ⊢
        refine pure_ (i := 0) (N := some 28) #[true, false, false, false, false, false, false, false, false, false, false, false, false, false, false, false, false] rfl rfl (by kernel_rfl) (fun _ _ _ h => h) (Or.inl ⟨by rfl, fun w' => by go_simp; with_reducible rfl⟩) (by simp only [ps_]; rfl) ?_
        refine pure_ (i := 1) (N := some 29) #[true, true, false, false, false, false, false, false, false, false, false, false, false, false, false, false, false] rfl rfl (by kernel_rfl) (fun _ _ _ h => h) (Or.inl ⟨by rfl, fun w' => by go_simp; with_reducible rfl⟩) (by simp only [ps_]; rfl) ?_
        refine pure_ (i := 2) (N := some 30) #[true, true, true, false, false, false, false, false, false, false, false, false, false, false, false, false, false] rfl rfl (by kernel_rfl) (fun _ _ _ h => h) (Or.inl ⟨by rfl, fun w' => by go_simp; with_reducible rfl⟩) (by simp only [ps_]; rfl) ?_
        refine pure_ (i := 3) (N := some 31) #[true, true, true, true, false, false, false, false, false, false, false, false, false, false, false, false, false] rfl rfl (by kernel_rfl) (fun _ _ _ h => h) (Or.inl ⟨by rfl, fun w' => by go_simp; with_reducible rfl⟩) (by simp only [ps_]; rfl) ?_
        refine pure_ (i := 4) (N := some 32) #[true, true, true, true, true, false, false, false, false, false, false, false, false, false, false, false, false] rfl rfl (by kernel_rfl) (fun _ _ _ h => h) (Or.inl ⟨by rfl, fun w' => by go_simp; with_reducible rfl⟩) (by simp only [ps_]; rfl) ?_
        refine pure_ (i := 5) (N := some 33) #[true, true, true, true, true, true, false, false, false, false, false, false, false, false, false, false, false] rfl rfl (by kernel_rfl) (fun _ _ _ h => h) (Or.inl ⟨by rfl, fun w' => by go_simp; with_reducible rfl⟩) (by simp only [ps_]; rfl) ?_
        refine pure_ (i := 7) (N := some 35) #[true, true, true, true, true, true, false, true, false, false, false, false, false, false, false, false, false] rfl rfl (by kernel_rfl) (fun _ _ _ h => h) (Or.inl ⟨by rfl, fun w' => by go_simp; with_reducible rfl⟩) (by simp only [ps_]; rfl) ?_
        refine pure_ (i := 8) (N := some 36) #[true, true, true, true, true, true, false, true, true, false, false, false, false, false, false, false, false] rfl rfl (by kernel_rfl) (fun _ _ _ h => h) (Or.inl ⟨by rfl, fun w' => by go_simp; with_reducible rfl⟩) (by simp only [ps_]; rfl) ?_
        refine take_ (i := 9) (N := some 37) (v := ?_) (a' := ?_) #[true, true, true, true, true, true, false, true, true, true, false, false, false, false, false, false, false] rfl rfl (by kernel_rfl) (fun _ _ _ h => h) (Or.inl ⟨by rfl, ?_⟩) hHeld ?_ ?_
        rotate_left
        ·rintro w' ⟨s0, s1, s2⟩
         refine MapV.look_run (by rfl) 65 kd Try.underlying75 (zr _) (by first | rfl | (go_simp; done) | (go_simp; rfl)) s2 x24_1 (by first | rfl | (go_simp; done) | (go_simp; rfl)) (kint hk0 hk1) (em.trans ?_)
         with_reducible rfl
        rotate_left
        ·simp only [ps_]
         rfl
        refine take_ (i := 6) (N := some 34) (v := ?_) (a' := ?_) #[true, true, true, true, true, true, true, true, true, true, false, false, false, false, false, false, false] rfl rfl (by kernel_rfl) (fun _ _ _ h => h) (Or.inl ⟨by rfl, ?_⟩) hHeld ?_ ?_
        rotate_left
        ·rintro w' ⟨s0, s1, s2⟩
         go_simp
         with_reducible rfl
        rotate_left
        ·simp only [ps_]
         rfl
        refine one_ (i := 10) (N := some 38) #[true, true, true, true, true, true, true, true, true, true, true, false, false, false, false, false, false] rfl rfl (by kernel_rfl) (by decide) (fun K hK => ?_)
        refine goes_ Try.func40 (by kernel_rfl) rfl #[.string ((rd_T36 l0 x24_1).f1), .slice Am (ofl x24_1 l1).length cm] (by rfl) rfl rfl (by (try simp only [List.map_toArray, List.map_cons, List.map_nil]); first | done | rfl | (simp only [List.length_drop, List.length_take]; rfl)) ?_
        refine (edit_Apply.calls k1 ((rd_T36 l0 x24_1).f1) _ _ (ofl x24_1 l1) t139 t140 _ ?side1 ?side2 A26.out).mono ?_
        (case side1 => exact (Kd.R_reads' (Kd.R_below HRm.out (by repeat (first | (with_reducible first | exact HM.out | apply bA_ | apply bN_ | apply bD_) | exact HM.out)))).2.2)
        (case side2 => exact (Kd.R_reads' HRm.out).2.1)
        rintro e w30 ⟨rfl, hb⟩
        refine ⟨_, rfl, ?_⟩
        have n0_ := a0_ (Kd.R_below (by exact HO_8.out) hb)
        have n1_ := a0_ (kB_ (g := gb129) (o := .cells #[.int .i64 0, .int .i64 0, .int .i64 0] 30 (0, 0)) (by exact BK129.out) hb)
        have n2_ := a0_ (kB_ (g := gb134) (o := .cells #[.int .i64 t131, .int .i64 t132, .int .i64 t133] 30 (0, 0)) (by exact BK134.out) hb)
        have n3_ := a0_ (bT_ (by exact HB.out) hb)
        have m3_ := a0_ (bT_ (by repeat (first | (with_reducible first | exact HM.out | apply bA_ | apply bN_ | apply bD_) | exact HM.out)) hb)
        clear HM
        have HM := m3_
        clear m3_
        clear HO_8
        clear BK129
        clear BK134
        clear HB
        have HO_8 := n0_
        have BK129 := n1_
        have BK134 := n2_
        have HB := n3_
        clear n0_ n1_ n2_ n3_
        have p28 : 0 ≤ (x24_1 : Int) := od_ (by first | (with_reducible assumption) | assumption)
        have q28 : (x24_1 : Int) < ((x8_1.length : Int) : Int) := od_ (by first | (with_reducible assumption) | assumption)
        obtain ⟨go28, co28, eo28, gb28, gl28, cl28, HG28⟩ := Kd.R_form HO_8.out (by omega)
        (first | cases eo28 | (injection eo28 with ea_ en_ ec_; (first | subst ea_ | (injection ea_ with ea_; subst ea_)); subst ec_; clear en_))
        have GB28 := a0_ gb28
        have GG28 := a0_ HG28
        clear gb28 gl28 HG28
        obtain ⟨ce28, hcl28, hM28, hcc28, hfr28⟩ := Kd.R_elem HO_8.out z36 (x24_1 : Int) p28 q28
        obtain rfl := k36_openM hM28
        have hx28_0 : World.cell? _ ⟨go28, (x24_1 : Int).toNat * 2, none⟩ = some (.string ((rd_T36 x8_1 x24_1).f0)) := hcc28 0 _ rfl
        have hx28_1 : World.cell? _ ⟨go28, (x24_1 : Int).toNat * 2 + 1, none⟩ = some (.string ((rd_T36 x8_1 x24_1).f1)) := hcc28 1 _ rfl
        have hf28_0 : World.frozen? _ ⟨go28, (x24_1 : Int).toNat * 2, none⟩ = false := hfr28 0
        have hf28_1 : World.frozen? _ ⟨go28, (x24_1 : Int).toNat * 2 + 1, none⟩ = false := hfr28 1
        clear hcl28 hcc28 hfr28 hM28
        replace p28 := eq_true p28
        replace q28 := eq_true q28
        obtain ⟨ce31, hcl31, hM31, hcc31, hfr31⟩ := Kd.R_elem HO_8.out z36 (x24_1 : Int) (od_ (by first | (with_reducible assumption) | assumption)) (by have h_ : (x24_1 : Int) < ((x8_1.length : Int) : Int) := od_ (by first | (with_reducible assumption) | assumption); first | exact h_ | (have e_ := (Kd.R_reads' HO_8.out).1; omega) | simpa using h_)
        obtain rfl := k36_openM hM31
        have HP31 := (Kd.R_seg HO_8.out (x24_1 : Int) (od_ (by first | (with_reducible assumption) | assumption)) (by have h_ : (x24_1 : Int) < ((x8_1.length : Int) : Int) := od_ (by first | (with_reducible assumption) | assumption); first | exact h_ | (have e_ := (Kd.R_reads' HO_8.out).1; omega) | simpa using h_) (seg := [.string t139]) (j := 1) hcl31 hcc31 (show 2 ≤ 2 from by decide) (x' := (⟨(rd_T36 x8_1 x24_1).f0, t139⟩ : S36)) (k36_mkM _ _ _ (⟨(rd_T36 x8_1 x24_1).f0, t139⟩ : S36) ) (fun _ hk => hk)).1
        rw [← Ny141.out] at HP31
        have HQ31 := a0_ HP31
        clear hcl31 hcc31 hfr31 hM31 HP31
        refine hK.out _ _ ⟨((HB.out.cell (bl_ w _ hw138_0)).trans hw138_0), ((HB.out.cell (bl_ w _ hw138_1)).trans hw138_1), (HMS.out.below HM.out).m⟩ (fun hHeld => ?_)
        clear hK K
        refine norm_ (a' := ?_) ?_ ?_
        rotate_left
        ·show Act.put _ (some 38) _ = _
         simp only [ps_]
         rfl
        refine pure_ (i := 11) (N := some 27) #[true, true, true, true, true, true, true, true, true, true, true, true, false, false, false, false, false] rfl rfl (by kernel_rfl) (fun _ _ _ h => h) (Or.inl ⟨by rfl, fun w' => by go_simp; with_reducible rfl⟩) (by simp only [ps_]; rfl) ?_
        refine pure_ (i := 12) (N := some 39) #[true, true, true, true, true, true, true, true, true, true, true, true, true, false, false, false, false] rfl rfl (by kernel_rfl) (fun _ _ _ h => h) (Or.inl ⟨by rfl, fun w' => by go_simp; with_reducible rfl⟩) (by simp only [ps_]; rfl) ?_
        refine pure_ (i := 13) (N := some 40) #[true, true, true, true, true, true, true, true, true, true, true, true, true, true, false, false, false] rfl rfl (by kernel_rfl) (fun _ _ _ h => h) (Or.inl ⟨by rfl, fun w' => by go_simp; with_reducible rfl⟩) (by simp only [ps_]; rfl) ?_
        refine pure_ (i := 14) (N := some 41) #[true, true, true, true, true, true, true, true, true, true, true, true, true, true, true, false, false] rfl rfl (by kernel_rfl) (fun _ _ _ h => h) (Or.inl ⟨by rfl, fun w' => by go_simp; with_reducible rfl⟩) (by simp only [ps_]; rfl) ?_
        refine pure_ (i := 15) (N := some 42) #[true, true, true, true, true, true, true, true, true, true, true, true, true, true, true, true, false] rfl rfl (by kernel_rfl) (fun _ _ _ h => h) (Or.inl ⟨by rfl, fun w' => by go_simp; with_reducible rfl⟩) (by simp only [ps_]; rfl) ?_
        refine last_ (i := 16) (N := none) #[true, true, true, true, true, true, true, true, true, true, true, true, true, true, true, true, true] rfl rfl (by kernel_rfl) (by decide) (fun K hK => ?_)
        refine skip_ (w1 := ?_) (by rfl) rfl ?_ ?_
        rotate_left
        ·go_simp
         rfl
        refine hK.out _ _ ?_
        clear hK K
        refine done_ (by kernel_rfl) ?_
        try go_wp2
        (try simp only [← hl8_1])
        go_roundg k1
        case measure => have := HK1.out; omega
        case rel => exact ⟨(y141), (wrap64 (x24_1 + 1)), (by first | rfl | (rw [wid (x := x24_1 + 1) (by omega) (by omega)]; done) | (simp; done) | (simp [*]; done)), H', ⟨by have := HK1.out; omega⟩, ⟨by (try simp only [hl8_1]); (with_reducible repeat (first | apply Kd.R_alloc | apply Kd.R_drewN | apply Kd.R_drew)); exact HQ31.out⟩, ⟨by (try simp only [hl8_1]); (with_reducible repeat (first | refine kN_ ?_ _ | refine kD_ ?_ | refine kA_ ?_ _)); refine blk_far ?_ (by have h_ := Kd.R_ne HO_8.out BK129.out (by decide); intro e_; exact h_ (by rw [e_]; rfl)) _; (with_reducible repeat (first | refine kN_ ?_ _ | refine kD_ ?_ | refine kA_ ?_ _)); exact BK129.out⟩, ⟨by (try simp only [hl8_1]); (with_reducible repeat (first | refine kN_ ?_ _ | refine kD_ ?_ | refine kA_ ?_ _)); refine blk_far ?_ (by have h_ := Kd.R_ne HO_8.out BK134.out (by decide); intro e_; exact h_ (by rw [e_]; rfl)) _; (with_reducible repeat (first | refine kN_ ?_ _ | refine kD_ ?_ | refine kA_ ?_ _)); exact BK134.out⟩, ⟨by repeat (first | (with_reducible first | exact HB.out | apply bA_ | apply bN_ | apply bD_ | refine bS_ ?_ GB28.out | refine bS_ ?_ GE129.out | refine bS_ ?_ GE134.out) | exact HB.out)⟩, ⟨(HMS.out.below (by repeat (first | (with_reducible first | exact HM.out | apply bA_ | apply bN_ | apply bD_) | exact HM.out))).farR HO_8.out (by decide) (go28) rfl _ _⟩⟩
       ·rw [if_neg c27] at H
        exact absurd H (by simp)
      ·rw [if_neg c25] at H
       exact absurd H (by simp)
     ·rw [if_neg c24] at H
      exact absurd H (by simp)
    ·rw [if_neg c23] at H
     have c23b0 : decide (x24_1 < (t135.length : Int)) = false := decide_eq_false c23
     rw [hl8_1] at c23b0
     clear c23
     simp only [Option.some.injEq, Prod.mk.injEq] at H
     obtain ⟨rfl, rfl, rfl, rfl⟩ := H
     have hnb32 := NB129_134.out
     have hnc32 := NB134_129.out
     have hcz33_0 : wr.cell? ⟨gb129, 0, none⟩ = some (.int .i64 0) := (blk_cell BK129.out 0).trans rfl
     have hcz33_1 : wr.cell? ⟨gb129, 1, none⟩ = some (.int .i64 0) := (blk_cell BK129.out 1).trans rfl
     have hcz33_2 : wr.cell? ⟨gb129, 2, none⟩ = some (.int .i64 0) := (blk_cell BK129.out 2).trans rfl
     have hfz33_0 := kF_ BK129.out 0
     have hfz33_1 := kF_ BK129.out 1
     have hfz33_2 := kF_ BK129.out 2
     go_wp2
     refine bodyPost_ret (results_tc rfl _ _ gb129 30 #[.int .i64 0, .int .i64 0, .int .i64 0] (0, 0) _ rfl (by refine blk_put (cs := #[.int .i64 0, .int .i64 0, .int .i64 0]) ?_ 2 _ rfl; refine blk_put (cs := #[.int .i64 0, .int .i64 0, .int .i64 0]) ?_ 1 _ rfl; refine blk_put (cs := #[.int .i64 0, .int .i64 0, .int .i64 0]) ?_ 0 _ rfl; exact BK129.out) Try.underlying30 rfl (by kernel_rfl)) rfl ?_
     exact ⟨_, by first | rfl | (simp [errW_none, errW_some] <;> rfl) | (simp [*, errW_none, errW_some] <;> rfl), by (with_reducible repeat (first | apply Kd.R_alloc | apply Kd.R_drewN | apply Kd.R_drew)); exact Kd.R_mono (Kd.R_far (p := ⟨gb129, 2, none⟩) (Kd.R_far (p := ⟨gb129, 1, none⟩) (Kd.R_far (p := ⟨gb129, 0, none⟩) (Kd.R_types HO_8.out BK129.out (by decide)) (fun _ hk => hk.2) (.int .i64 0)) (fun _ hk => hk.2) (.int .i64 0)) (fun _ hk => hk.2) (.int .i64 0)) (fun _ hk => trivial), by repeat (first | (with_reducible first | exact HB.out | apply bA_ | apply bN_ | apply bD_ | refine bS_ ?_ GE129.out | refine bS_ ?_ GE134.out) | exact HB.out)⟩
end Go.Proofs.Ytclcnglamlegiaa.Trial
namespace Go.Proofs.Ytclcnglamlegiaa.Trial
open Go Go.RowKit Go.Proofs.YtclcnglamlegiaaW.PrintWords Go.Proofs.YtclcnglamlegiaaW.PrintLast Go.Proofs.YtclcnglamlegiaaW.PrintMore Go.Proofs.Ytclcnglamlegiaa.PMD
def f (k : Nat) (a : List S36) (L : List S34) : Option (List S36 × Int × Int × Int) := trial_Apply.f k a L
theorem mono_f : ∀ a0 a1 k, LeO (f k a0 a1) (f (k + 1) a0 a1) := trial_Apply.mono
theorem apply (k : Nat) (A0 : Option Addr) (c0 : Nat) (l0 : List S36) (A1 : Option Addr) (c1 : Nat) (l1 : List S34) (r1 : List S36) (r2 r3 r4 : Int) (w : World) (hr0 : Kd.C k36 w A0 l0.length l0) (hc0 : l0.length ≤ c0) (hr1 : Kd.C k34 w A1 l1.length l1) (hc1 : l1.length ≤ c1) (h : f k l0 l1 = some (r1, r2, r3, r4)) :
  Calls Try.prog 32 #[.slice A0 l0.length c0, .slice A1 l1.length c1] w fun e w' => ∃ v0_ : Value, e = .returned (.tuple #[v0_, .agg #[.int .i64 r2, .int .i64 r3, .int .i64 r4]]) ∧ Kd.R k36 36 w' w.heap.size (fun _ => True) v0_ r1 ∧ Below w.heap.size w w' :=
 trial_Apply.calls k A0 c0 l0 A1 c1 l1 r1 r2 r3 r4 w hr0 hc0 hr1 hc1 h
end Go.Proofs.Ytclcnglamlegiaa.Trial
