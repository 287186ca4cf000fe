/- Readings of arguments whose type leads to itself. Conditions: the types are the dump's own. -/
import Derived.Test.YtemdnmidhmddlaaFrame
namespace Go.Proofs.Ytemdnmidhmddlaa.Frame
open Go.RowKit Go.Proofs.YtemdnmidhmddlaaW.PrintWords Go.Deep
set_option linter.unusedVariables false
structure RdB {α : Type} (P : Program) (d : Kd α) (t : TypeId) (good : α → Prop) (N : Nat) : Prop where
 sz : P.cellsOf t = d.sz
 opens : ∀ {H : Type} {enc : TypeId × Value → H} {w : World} {base : Nat} {held : Bool} (fuel : Nat) (hf : fuel ≤ N) (cs : List Value) (x : DataW H × List MemPlace),
  DataW.trod enc P w base (fun _ => true) held fuel t cs = some x → ∃ a : α, d.K w a cs ∧ good a
theorem Rd.b {α : Type} {P : Program} {d : Kd α} {t : TypeId} {good : α → Prop} (h : Rd P d t good) (N : Nat) : RdB P d t good N := ⟨h.sz, fun fuel _ cs x hx => h.opens fuel cs x hx⟩
theorem Rd.of {α : Type} {P : Program} {d : Kd α} {t : TypeId} {good : α → Prop} (h : ∀ N, RdB P d t good N) : Rd P d t good := ⟨(h 0).sz, fun fuel cs x hx => (h fuel).opens fuel (Nat.le_refl _) cs x hx⟩
theorem RdB.slice {α : Type} [Inhabited α] {P : Program} {t e : TypeId} {d : Kd α} {good : α → Prop} {N : Nat} (ht : P.underlying t = some (.slice e)) (hs : P.cellsOf t = 1) (he : RdB P d e good N) :
  RdB P (Kd.slice e d) t (inL good) (N + 1) :=
 ⟨hs, fun {H enc w base held} fuel hf0 cs x h => by
  rcases DataW.trod_slice ht h with ⟨rfl, rfl⟩ | ⟨a, len, cap, elems, rest, n, hfu, rfl, rfl, hb, hl, hm, hlen, hel, _, _⟩
  ·exact ⟨[], ⟨none, 0, rfl, Nat.le_refl _, rfl, by simp, fun h => absurd h (by simp)⟩, by simp [maxLen], fun x hx => by simp at hx⟩
  ·obtain ⟨f, hf⟩ := choose_lt (α := α) (n := len) (p := fun i y => ∃ cs', w.cells? base (a.add (i * P.cellsOf e)) (P.cellsOf e) = some cs' ∧ d.K w y cs' ∧ good y) (fun i hi => by
    have key := hel i hi
    rw [List.getElem?_eq_getElem (by omega)] at key
    obtain ⟨cs', h1, h2⟩ := Option.bind_eq_some_iff.1 key
    obtain ⟨y, h3, h4⟩ := he.opens n (by omega) _ _ h2
    exact ⟨y, cs', h1, h3, h4⟩)
   refine ⟨(List.range len).map f, ⟨some a, cap, by simp, by simpa using hl, by simp, ?_, fun _ => ⟨a, rfl, fun j p hj => ?_⟩⟩, by simp; omega, fun y hy => ?_⟩
   ·simp only [List.length_map, List.length_range]; unfold maxLen at hm; omega
   ·have hj' : j < len := by
     have := (List.getElem?_eq_some_iff.1 hj).1
     simpa using this
    obtain ⟨cs', h1, h2, h3⟩ := hf j hj'
    have hp : f j = p := by simpa [hj'] using hj
    subst hp
    obtain ⟨_, h4, h5⟩ := World.cells?_some h1
    rw [he.sz] at h4 h5
    refine ⟨cs', h4, h2, fun i u hu => ?_⟩
    have hi : i < d.sz := by
     have := (List.getElem?_eq_some_iff.1 hu).1
     omega
    rw [← hu, ← h5 i hi, Go.Deep.add_add]
   ·obtain ⟨i, hi, rfl⟩ := List.mem_map.1 hy
    obtain ⟨_, _, _, h3⟩ := hf i (List.mem_range.1 hi)
    exact h3⟩
structure RdFB {α : Type} (P : Program) (d : Kd α) (fs : List Field) (off : Nat) (good : α → Prop) (N : Nat) : Prop where
 opens : ∀ {H : Type} {enc : TypeId × Value → H} {w : World} {base : Nat} {held : Bool} (n : Nat) (hn : n ≤ N) (cs : List Value), cs.length = off + d.sz →
  (∀ (i : Nat) (f : Field), fs[i]? = some f → ∃ x, DataW.trod enc P w base (fun _ => true) held n f.type ((cs.drop f.offset).take (P.cellsOf f.type)) = some x) → ∃ a : α, d.K w a (cs.drop off) ∧ good a
theorem RdFB.one {α : Type} {P : Program} {d : Kd α} {f : Field} {off : Nat} {good : α → Prop} {N : Nat} (h : RdB P d f.type good N) (ho : f.offset = off) : RdFB P d [f] off good N := by
 constructor
 intro H enc w base held n hn cs hl hx
 obtain ⟨x, hx⟩ := hx 0 f rfl
 rw [ho, h.sz, List.take_of_length_le (by rw [List.length_drop]; omega)] at hx
 exact h.opens _ hn _ _ hx
theorem RdFB.cons {α β : Type} {P : Program} {a : Kd α} {b : Kd β} {f : Field} {fs : List Field} {off : Nat} {ga : α → Prop} {gb : β → Prop} {N : Nat} (h : RdB P a f.type ga N) (ho : f.offset = off) (hr : RdFB P b fs (off + a.sz) gb N) :
  RdFB P (Kd.pair a b) (f :: fs) off (fun x => ga x.1 ∧ gb x.2) N := by
 constructor
 intro H enc w base held n hn cs hl hx
 have hl' : cs.length = off + (a.sz + b.sz) := hl
 obtain ⟨x, hx0⟩ := hx 0 f rfl
 rw [ho, h.sz] at hx0
 obtain ⟨u, hu, hgu⟩ := h.opens _ hn _ _ hx0
 obtain ⟨v, hv, hgv⟩ := hr.opens (enc := enc) (w := w) (base := base) (held := held) n hn cs (by omega) (fun i g hg => hx (i + 1) g hg)
 refine ⟨(u, v), ⟨_, _, ?_, hu, hv⟩, hgu, hgv⟩
 rw [← List.drop_drop]
 exact (List.take_append_drop _ _).symm
theorem RdB.struct {α β : Type} {P : Program} {t : TypeId} {d : Kd α} {fs : Array Field} {good : α → Prop} {N : Nat} (ht : P.underlying t = some (.struct fs)) (hs : P.cellsOf t = d.sz) (hf : RdFB P d fs.toList 0 good N)
  (f : β → α) (g : α → β) (hfg : ∀ x, f (g x) = x) : RdB P (Kd.iso d f) t (fun x => good (f x)) (N + 1) :=
 ⟨hs, fun {H enc w base held} fuel hf0 cs x h => by
  obtain ⟨xs, n, rfl, rfl, hl, hl2, hx⟩ := DataW.trod_struct ht h
  obtain ⟨a, ha, hg⟩ := hf.opens (enc := enc) (w := w) (base := base) (held := held) n (by omega) cs (by omega) (fun i f hfi => by
   have hfi' : fs[i]? = some f := by simpa using hfi
   rw [hx i f hfi']
   have hi : i < xs.length := by
    have := (Array.getElem?_eq_some_iff.1 hfi').1
    omega
   exact ⟨_, List.getElem?_eq_getElem hi⟩)
  refine ⟨g a, ?_, ?_⟩
  ·show d.K w (f (g a)) cs
   rw [hfg]
   simpa using ha
  ·show good (f (g a))
   rw [hfg]
   exact hg⟩
theorem RdB.imp {α : Type} {P : Program} {d d' : Kd α} {t : TypeId} {good good' : α → Prop} {N M : Nat} (h : RdB P d t good N) (hs : d'.sz = d.sz) (hd : ∀ w x cs, d.K w x cs → d'.K w x cs) (hg : ∀ x, good x → good' x) (hN : M ≤ N) : RdB P d' t good' M :=
 ⟨h.sz.trans hs.symm, fun fuel hf cs x hx => by
  obtain ⟨a, h1, h2⟩ := h.opens fuel (by omega) cs x hx
  exact ⟨a, hd _ _ _ h1, hg _ h2⟩⟩
end Go.Proofs.Ytemdnmidhmddlaa.Frame
