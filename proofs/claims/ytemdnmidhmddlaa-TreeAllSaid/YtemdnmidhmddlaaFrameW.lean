/- Readings whose rows, nested ones too, weigh no more than the form's reach. Conditions: the types are the dump's own. -/
import Derived.Test.YtemdnmidhmddlaaFrameB
import Derived.SizedLaws
namespace Go.Proofs.Ytemdnmidhmddlaa.Frame
open Go.RowKit Go.Proofs.YtemdnmidhmddlaaW.PrintWords Go.Deep
set_option linter.unusedVariables false
/-- Rows that weigh no more than the reach. -/
def inW {α : Type} (b : Nat) (good : α → Prop) (l : List α) : Prop := l.length * b ≤ reachBytes ∧ ∀ x ∈ l, good x
structure RdW {α : Type} (P : Program) (d : Kd α) (t : TypeId) (good : α → Prop) (N : Nat) : Prop where
  sz : P.cellsOf t = d.sz
  opens : ∀ {H : Type} {enc : TypeId × Value → H} {w : World} {base : Nat} {held : Bool} (fuel : Nat) (hf : fuel ≤ N) (cs : List Value) (x : DataW H × List MemPlace),
    DataW.trod enc P w base (fun _ => true) held fuel t cs = some x → (∀ n ∈ x.1.weights P t, n ≤ reachBytes) → ∃ a : α, d.K w a cs ∧ good a
theorem RdB.w {α : Type} {P : Program} {d : Kd α} {t : TypeId} {good : α → Prop} {N : Nat} (h : RdB P d t good N) : RdW P d t good N := ⟨h.sz, fun fuel hf cs x hx _ => h.opens fuel hf cs x hx⟩
theorem weights_all {H : Type} {P : Program} {e : TypeId} : ∀ {ds : List (DataW H)} {d : DataW H} {n : Nat}, d ∈ ds → n ∈ d.weights P e → n ∈ DataW.weightsAll P e ds
  | d0 :: r, d, n, hd, hn => by
    rw [DataW.weightsAll, List.mem_append]
    rcases List.mem_cons.mp hd with rfl | hd
    · exact .inl hn
    · exact .inr (weights_all hd hn)
theorem RdW.slice {α : Type} [Inhabited α] {P : Program} {t e : TypeId} {d : Kd α} {good : α → Prop} {N : Nat} (ht : P.underlying t = some (.slice e)) (hs : P.cellsOf t = 1) (he : RdW P d e good N) :
    RdW P (Kd.slice e d) t (inW (P.bytesOf e) good) (N + 1) :=
  ⟨hs, fun {H enc w base held} fuel hf0 cs x h hw => by
    rcases DataW.trod_slice ht h with ⟨rfl, rfl⟩ | ⟨a, len, cap, elems, rest, n, hfu, rfl, rfl, hb, hl, hm, hlen, hel, _, _⟩
    · exact ⟨[], ⟨none, 0, rfl, Nat.le_refl _, rfl, by simp, fun h => absurd h (by simp)⟩, by simp, fun x hx => by simp at hx⟩
    · have hw0 : (elems.length + rest.length) * P.bytesOf e ≤ reachBytes := hw _ (by simp [DataW.weights, ht])
      have hwe : ∀ y ∈ elems, ∀ n ∈ y.1.weights P e, n ≤ reachBytes := fun y hy n hn => hw n (by
        simp only [DataW.weights, ht, List.mem_cons, List.mem_append]
        exact .inr (.inl (weights_all (List.mem_map_of_mem hy) hn)))
      obtain ⟨f, hf⟩ := choose_lt (α := α) (n := len) (p := fun i y => ∃ cs', w.cells? base (a.add (i * P.cellsOf e)) (P.cellsOf e) = some cs' ∧ d.K w y cs' ∧ good y) (fun i hi => by
        have key := hel i hi
        rw [List.getElem?_eq_getElem (by omega)] at key
        obtain ⟨cs', h1, h2⟩ := Option.bind_eq_some_iff.1 key
        obtain ⟨y, h3, h4⟩ := he.opens n (by omega) _ _ h2 (hwe _ (List.getElem_mem _))
        exact ⟨y, cs', h1, h3, h4⟩)
      refine ⟨(List.range len).map f, ⟨some a, cap, by simp, by simpa using hl, by simp, ?_, fun _ => ⟨a, rfl, fun j p hj => ?_⟩⟩, ?_, fun y hy => ?_⟩
      · simp only [List.length_map, List.length_range]; unfold maxLen at hm; omega
      · have hj' : j < len := by
          have := (List.getElem?_eq_some_iff.1 hj).1
          simpa using this
        obtain ⟨cs', h1, h2, h3⟩ := hf j hj'
        have hp : f j = p := by simpa [hj'] using hj
        subst hp
        obtain ⟨_, h4, h5⟩ := World.cells?_some h1
        rw [he.sz] at h4 h5
        refine ⟨cs', h4, h2, fun i u hu => ?_⟩
        have hi : i < d.sz := by
          have := (List.getElem?_eq_some_iff.1 hu).1
          omega
        rw [← hu, ← h5 i hi, Go.Deep.add_add]
      · rw [List.length_map, List.length_range]
        exact Nat.le_trans (Nat.mul_le_mul_right _ (by omega)) hw0
      · obtain ⟨i, hi, rfl⟩ := List.mem_map.1 hy
        obtain ⟨_, _, _, h3⟩ := hf i (List.mem_range.1 hi)
        exact h3⟩
/-- The fields of a struct, from one on. -/
structure RdFW {α : Type} (P : Program) (d : Kd α) (fs : List Field) (off : Nat) (good : α → Prop) (N : Nat) : Prop where
  opens : ∀ {H : Type} {enc : TypeId × Value → H} {w : World} {base : Nat} {held : Bool} (n : Nat) (hn : n ≤ N) (cs : List Value), cs.length = off + d.sz →
    (∀ (i : Nat) (f : Field), fs[i]? = some f → ∃ x, DataW.trod enc P w base (fun _ => true) held n f.type ((cs.drop f.offset).take (P.cellsOf f.type)) = some x ∧ ∀ n ∈ x.1.weights P f.type, n ≤ reachBytes) → ∃ a : α, d.K w a (cs.drop off) ∧ good a
theorem RdFW.one {α : Type} {P : Program} {d : Kd α} {f : Field} {off : Nat} {good : α → Prop} {N : Nat} (h : RdW P d f.type good N) (ho : f.offset = off) : RdFW P d [f] off good N := by
  constructor
  intro H enc w base held n hn cs hl hx
  obtain ⟨x, hx, hw⟩ := hx 0 f rfl
  rw [ho, h.sz, List.take_of_length_le (by rw [List.length_drop]; omega)] at hx
  exact h.opens _ hn _ _ hx hw
theorem RdFW.cons {α β : Type} {P : Program} {a : Kd α} {b : Kd β} {f : Field} {fs : List Field} {off : Nat} {ga : α → Prop} {gb : β → Prop} {N : Nat} (h : RdW P a f.type ga N) (ho : f.offset = off) (hr : RdFW P b fs (off + a.sz) gb N) :
    RdFW P (Kd.pair a b) (f :: fs) off (fun x => ga x.1 ∧ gb x.2) N := by
  constructor
  intro H enc w base held n hn cs hl hx
  have hl' : cs.length = off + (a.sz + b.sz) := hl
  obtain ⟨x, hx0, hw⟩ := hx 0 f rfl
  rw [ho, h.sz] at hx0
  obtain ⟨u, hu, hgu⟩ := h.opens _ hn _ _ hx0 hw
  obtain ⟨v, hv, hgv⟩ := hr.opens (enc := enc) (w := w) (base := base) (held := held) n hn cs (by omega) (fun i g hg => hx (i + 1) g hg)
  refine ⟨(u, v), ⟨_, _, ?_, hu, hv⟩, hgu, hgv⟩
  rw [← List.drop_drop]
  exact (List.take_append_drop _ _).symm
theorem RdW.struct {α β : Type} {P : Program} {t : TypeId} {d : Kd α} {fs : Array Field} {good : α → Prop} {N : Nat} (ht : P.underlying t = some (.struct fs)) (hs : P.cellsOf t = d.sz) (hf : RdFW P d fs.toList 0 good N)
    (f : β → α) (g : α → β) (hfg : ∀ x, f (g x) = x) : RdW P (Kd.iso d f) t (fun x => good (f x)) (N + 1) :=
  ⟨hs, fun {H enc w base held} fuel hf0 cs x h hw => by
    obtain ⟨xs, n, rfl, rfl, hl, hl2, hx⟩ := DataW.trod_struct ht h
    obtain ⟨a, ha, hg⟩ := hf.opens (enc := enc) (w := w) (base := base) (held := held) n (by omega) cs (by omega) (fun i f hfi => by
      have hfi' : fs[i]? = some f := by simpa using hfi
      rw [hx i f hfi']
      have hi : i < xs.length := by
        have := (Array.getElem?_eq_some_iff.1 hfi').1
        omega
      refine ⟨_, List.getElem?_eq_getElem hi, fun n hn => hw n ?_⟩
      simp only [DataW.weights, ht]
      exact DataW.weights_mem_each (j := i) (t := f.type) (d := xs[i].1) (by rw [List.getElem?_map, hfi]; rfl) (by rw [List.getElem?_map, List.getElem?_eq_getElem hi]; rfl) n hn)
    refine ⟨g a, ?_, ?_⟩
    · show d.K w (f (g a)) cs
      rw [hfg]
      simpa using ha
    · show good (f (g a))
      rw [hfg]
      exact hg⟩
theorem RdW.imp {α : Type} {P : Program} {d d' : Kd α} {t : TypeId} {good good' : α → Prop} {N M : Nat} (h : RdW P d t good N) (hs : d'.sz = d.sz) (hd : ∀ w x cs, d.K w x cs → d'.K w x cs) (hg : ∀ x, good x → good' x) (hN : M ≤ N) : RdW P d' t good' M :=
  ⟨h.sz.trans hs.symm, fun fuel hf cs x hx hw => by
    obtain ⟨a, h1, h2⟩ := h.opens fuel (by omega) cs x hx hw
    exact ⟨a, hd _ _ _ h1, hg _ h2⟩⟩
/-- An argument that is a slice. -/
theorem RdW.arg {α : Type} {P : Program} {t e : TypeId} {d : Kd α} {good : List α → Prop} (h : ∀ N, RdW P (Kd.slice e d) t good N) {H : Type} {enc : TypeId × Value → H} {w : World} {base : Nat} {held : Bool} {A : Option Addr} {len cap : Nat} {D : DataW H} {p : List MemPlace}
    (hr : DataW.Trod enc P w base (fun _ => true) held t (.slice A len cap) D p) (hw : ∀ n ∈ D.weights P t, n ≤ reachBytes) : ∃ l : List α, len = l.length ∧ l.length ≤ cap ∧ d.C w A l.length l ∧ good l := by
  obtain ⟨fuel, hf⟩ := hr
  obtain ⟨l, ⟨A', c, he, hc, hC⟩, hg⟩ := (h fuel).opens fuel (Nat.le_refl _) _ _ hf hw
  have he' : [Value.slice A len cap] = [Value.slice A' l.length c] := by simpa [Value.cells] using he
  injection he' with he' _
  injection he' with h1 h2 h3
  subst h1 h2 h3
  exact ⟨l, rfl, hc, hC, hg⟩
theorem RdW.argS {α : Type} {P : Program} {t : TypeId} {d : Kd α} {good : α → Prop} (h : ∀ N, RdW P d t good N) {H : Type} {enc : TypeId × Value → H} {w : World} {base : Nat} {held : Bool} {vs : Array Value} {D : DataW H} {p : List MemPlace}
    (hr : DataW.Trod enc P w base (fun _ => true) held t (.agg vs) D p) (hw : ∀ n ∈ D.weights P t, n ≤ reachBytes) : ∃ a : α, d.K w a vs.toList ∧ good a := by
  obtain ⟨fuel, hf⟩ := hr
  obtain ⟨a, hK, hg⟩ := (h fuel).opens fuel (Nat.le_refl _) _ _ hf hw
  exact ⟨a, by simpa [Value.cells] using hK, hg⟩
end Go.Proofs.Ytemdnmidhmddlaa.Frame
