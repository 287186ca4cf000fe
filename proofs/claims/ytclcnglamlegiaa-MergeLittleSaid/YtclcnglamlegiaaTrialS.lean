/- The edits of each file, in a map that the call has made: what the map holds behind each change. Conditions: as the theorems say. -/
import Derived.Test.YtclcnglamlegiaaMapV
import Derived.Test.YtclcnglamlegiaaPMLx0
namespace Go.Proofs.Ytclcnglamlegiaa.Trial
open Go Go.RowKit Go.Proofs.YtclcnglamlegiaaW.PrintWords Go.Proofs.YtclcnglamlegiaaW.PrintLast Go.Proofs.YtclcnglamlegiaaW.PrintMore Go.Proofs.Ytclcnglamlegiaa.PML Go.Proofs.Ytclcnglamlegiaa.MapV
set_option linter.unusedVariables false
set_option linter.unusedSimpArgs false
/-- A change's edit. -/
def eof (x : S34) : S58 := ⟨x.f1, x.f2, x.f3⟩
/-- A file's edits. -/
def ofl (i : Int) (L : List S34) : List S58 := (L.filter fun x => x.f0 == i).map eof
theorem ofl_same (L : List S34) (x : S34) : ofl x.f0 (L ++ [x]) = ofl x.f0 L ++ [eof x] := by
  simp [ofl, List.filter_append]
theorem ofl_other {i : Int} (L : List S34) (x : S34) (h : i ≠ x.f0) : ofl i (L ++ [x]) = ofl i L := by
  have : (x.f0 == i) = false := beq_eq_false_iff_ne.mpr (Ne.symm h)
  simp [ofl, List.filter_append, this]
theorem ofl_len (i : Int) (L : List S34) : (ofl i L).length ≤ L.length := by
  unfold ofl
  rw [List.length_map]
  exact List.length_filter_le _ _
/-- The map of edits, behind the changes L. -/
structure MS (w0 w : World) (b n : Nat) (f : Int → Value) (L : List S34) : Prop where
  m : MapAt Try.prog 3 w b n (.slice none 0 0) f
  rows : ∀ i : Int, Kd.R k58 58 w w0.heap.size (fun _ => True) (f i) (ofl i L)
  ap : ∀ i j : Int, i ≠ j → (f i).ownBlock = none ∨ (f i).ownBlock ≠ (f j).ownBlock
  lm : w0.heap.size ≤ b
theorem kE : k58.E = [] := rfl
namespace MS
variable {w0 w w1 w2 : World} {b n : Nat} {f : Int → Value} {L : List S34}
theorem made (w0 w : World) (h : w0.heap.size ≤ w.heap.size) : MS w0 (w.alloc (.map #[] 0)) w.heap.size 0 (fun _ => .slice none 0 0) [] :=
  ⟨MapV.made _ _ _ _, fun i => Kd.R_nil _ _ _ _ _, fun i j _ => .inl rfl, h⟩
theorem below (h : MS w0 w b n f L) (hb : Below w.heap.size w w1) : MS w0 w1 b n f L :=
  ⟨h.m.below hb, fun i => Kd.R_below (h.rows i) hb, h.ap, h.lm⟩
theorem far (h : MS w0 w b n f L) {g : Nat} {cs : Array Value} {t : TypeId} (hg : w.heap[g]? = some (.cells cs t (0, 0))) (ht : 58 ≠ t) (o : Nat) (v : Value) : MS w0 (w.setCell ⟨g, o, none⟩ v) b n f L :=
  ⟨h.m.far (p := ⟨g, o, none⟩) (h.m.ne hg) v, fun i => Kd.R_mono (Kd.R_far (p := ⟨g, o, none⟩) (Kd.R_types (h.rows i) hg (fun q hq => by
    rw [kE] at hq
    rw [List.mem_singleton] at hq
    exact hq ▸ ht)) (fun _ hk => hk.2) v) (fun _ hk => hk.1), h.ap, h.lm⟩
theorem own (h : MS w0 w b n f L) (i : Int) {g : Nat} {cs : Array Value} {t : TypeId} (hg : w.heap[g]? = some (.cells cs t (0, 0))) (ht : t ≠ 58) : some g ≠ (f i).ownBlock := fun e_ =>
  ((Kd.R_typed (h.rows i)) _ e_.symm).elim fun _ hc => blk_ne hg hc ht rfl
theorem mown (h : MS w0 w b n f L) (i : Int) : some b ≠ (f i).ownBlock := fun e_ =>
  ((Kd.R_typed (h.rows i)) _ e_.symm).elim fun _ hc => h.m.ne hc rfl
/-- Behind an append to the row of the change's file: the map is as it was, the row not yet in it. -/
theorem app (h : MS w0 w b n f L) (x : S34) {v2 : Value} (ho : Kd.R k58 58 w1 w0.heap.size (fun _ => True) v2 (ofl x.f0 L ++ [eof x])) (hg : w.grownBy w1 (f x.f0).ownBlock)
    (hat : v2.ownBlock = (f x.f0).ownBlock ∨ ∃ g, v2.ownBlock = some g ∧ w.heap.size ≤ g) :
    MapAt Try.prog 3 w1 b n (.slice none 0 0) f ∧ ∀ w2 : World, MapAt Try.prog 3 w2 b (n + 1) (.slice none 0 0) (fun j => if j = x.f0 then v2 else f j) → w1.grownBy w2 (some b) → MS w0 w2 b (n + 1) (fun j => if j = x.f0 then v2 else f j) (L ++ [x]) := by
  have m1 := h.m.kept hg (h.mown x.f0)
  refine ⟨m1, fun w2 m2 hg2 => ⟨m2, fun i => ?_, fun i j hij => ?_, h.lm⟩⟩
  · by_cases c : i = x.f0
    · subst c
      simp only [if_pos, ofl_same]
      exact Kd.R_grown2 ho kE hg2 (fun k hk e_ => by
        cases hk
        exact ((Kd.R_typed ho) _ e_.symm).elim fun _ hc => m1.ne hc rfl)
    · simp only [if_neg c, ofl_other L x c]
      have hr1 := Kd.R_grown2 (h.rows i) kE hg (fun k hk e_ => by
        rcases h.ap i x.f0 c with h1 | h1
        · rw [h1] at e_
          cases e_
        · exact h1 (e_.symm.trans hk.symm))
      exact Kd.R_grown2 hr1 kE hg2 (fun k hk e_ => by
        cases hk
        exact ((Kd.R_typed hr1) _ e_.symm).elim fun _ hc => m1.ne hc rfl)
  · by_cases ci : i = x.f0
    · have cj : j ≠ x.f0 := fun e => hij (ci.trans e.symm)
      simp only [if_pos ci, if_neg cj]
      rcases hat with h1 | ⟨g, h1, h2⟩
      · rw [h1]
        exact h.ap x.f0 j (Ne.symm cj)
      · refine .inr fun e => ?_
        rw [h1] at e
        have := Kd.R_lt (h.rows j) g e.symm
        omega
    · by_cases cj : j = x.f0
      · simp only [if_neg ci, if_pos cj]
        rcases hat with h1 | ⟨g, h1, h2⟩
        · rw [h1]
          exact h.ap i x.f0 ci
        · refine .inr fun e => ?_
          rw [h1] at e
          have := Kd.R_lt (h.rows i) g e
          omega
      · simp only [if_neg ci, if_neg cj]
        exact h.ap i j hij
theorem set3 (h : MS w0 w b n f L) {g : Nat} {c0 c1 c2 : Value} (hg : w.heap[g]? = some (.cells #[c0, c1, c2] 30 (0, 0))) (x y z : Value) : MS w0 (((w.setCell ⟨g, 0, none⟩ x).setCell ⟨g, 1, none⟩ y).setCell ⟨g, 2, none⟩ z) b n f L :=
  ((h.far hg (by decide) 0 x).far (blk_put hg 0 x rfl) (by decide) 1 y).far (blk_put (blk_put hg 0 x rfl) 1 y rfl) (by decide) 2 z
end MS
theorem take_next (l : List S34) (x : Int) (h0 : 0 ≤ x) (h1 : x < (l.length : Int)) : l.take (x + 1).toNat = l.take x.toNat ++ [rd_T34 l x] := by
  have e : (x + 1).toNat = x.toNat + 1 := by omega
  have hx : x.toNat < l.length := by omega
  rw [e, List.take_succ_eq_append_getElem hx]
  congr 1
  simp [rd_T34, hx, h0]
theorem rd_mem (l : List S34) (x : Int) (h0 : 0 ≤ x) (h1 : x < (l.length : Int)) : rd_T34 l x ∈ l := by
  have hx : x.toNat < l.length := by omega
  simp [rd_T34, hx]
theorem wid {x : Int} (h0 : -9223372036854775808 ≤ x) (h1 : x ≤ 9223372036854775807) : wrap64 x = x := by
  unfold wrap64
  omega
theorem kint {i : Int} (h0 : 0 ≤ i) (h1 : i < 2000000) : keyOf Try.prog 3 (.int .i64 i) = some (.int .i64 i) :=
  Maps.keyOf_int_mk Try.underlying3 (by
    have h2 : IntKind.i64.min ≤ i := Int.le_trans (by decide) h0
    have h3 : i ≤ 9223372036854775807 := by omega
    simp [Lit.wf, h2, h3])
theorem kd : Maps.Keyed Try.prog 3 := Maps.int_keyed Try.underlying3
theorem zr (w : World) : (zeroValue 65).run Try.prog w = .ok (.slice none 0 0) w := by
  have h : Try.t65.zero = some (.slice none 0 0) := by kernel_rfl
  simp [zeroValue, Try.underlying65, h]
end Go.Proofs.Ytclcnglamlegiaa.Trial
