/- From what an argument reads as to the print's word 'Kd' for it: whole numbers, bools, strings, structs of these, slices of these, nested. Conditions: the types are the dump's own. -/
import Derived.Deep.Slices
import Derived.ChangeArms
import Derived.DataReads
import Derived.Test.YtnemooemifbbhaaDoorWWords
namespace Go.Proofs.YtnemooemifbbhaaDoor.Frame
open Go.RowKit Go.Proofs.YtnemooemifbbhaaDoorW.PrintWords Go.Deep
set_option linter.unusedVariables false
structure Rd {α : Type} (P : Program) (d : Kd α) (t : TypeId) (good : α → Prop) : Prop where
 sz : P.cellsOf t = d.sz
 opens : ∀ {H : Type} {enc : TypeId × Value → H} {w : World} {base : Nat} {held : Bool} (fuel : Nat) (cs : List Value) (x : DataW H × List MemPlace),
  DataW.trod enc P w base (fun _ => true) held fuel t cs = some x → ∃ a : α, d.K w a cs ∧ good a
def inK (k : IntKind) (n : Int) : Prop := (Lit.int k n).wf = true
def inS (s : ByteArray) : Prop := s.size ≤ maxLen
def inL {α : Type} (good : α → Prop) (l : List α) : Prop := l.length ≤ maxLen ∧ ∀ x ∈ l, good x
theorem Rd.int {P : Program} {t : TypeId} {k : IntKind} (ht : P.underlying t = some (.int k)) (hs : P.cellsOf t = 1) : Rd P (Kd.int k) t (inK k) :=
 ⟨hs, fun fuel cs x h => by
  obtain ⟨n, rfl, rfl, hw⟩ := DataW.trod_int ht h
  exact ⟨n, rfl, hw⟩⟩
theorem Rd.bool {P : Program} {t : TypeId} (ht : P.underlying t = some .bool) (hs : P.cellsOf t = 1) : Rd P Kd.bool t (fun _ => True) :=
 ⟨hs, fun fuel cs x h => by
  obtain ⟨b, rfl, rfl⟩ := DataW.trod_bool ht h
  exact ⟨b, rfl, trivial⟩⟩
theorem Rd.string {P : Program} {t : TypeId} (ht : P.underlying t = some .string) (hs : P.cellsOf t = 1) : Rd P Kd.string t inS :=
 ⟨hs, fun fuel cs x h => by
  obtain ⟨s, rfl, rfl, hw⟩ := DataW.trod_string ht h
  exact ⟨s, rfl, hw⟩⟩
theorem Rd.slice {α : Type} [Inhabited α] {P : Program} {t e : TypeId} {d : Kd α} {good : α → Prop} (ht : P.underlying t = some (.slice e)) (hs : P.cellsOf t = 1) (he : Rd P d e good) :
  Rd P (Kd.slice e d) t (inL good) :=
 ⟨hs, fun {H enc w base held} fuel cs x h => by
  rcases open_slice ht h with ⟨rfl, rfl⟩ | ⟨a, len, cap, m, n, D, Pl, rfl, hb, hl, hm, hmm, rfl, hx⟩
  ·exact ⟨[], ⟨none, 0, rfl, Nat.le_refl _, rfl, by simp, fun h => absurd h (by simp)⟩, by simp [maxLen], fun x hx => by simp at hx⟩
  ·rw [if_pos rfl] at hmm
   subst hmm
   obtain ⟨f, hf⟩ := choose_lt (α := α) (n := len) (p := fun i y => ∃ cs', w.cells? base (a.add (i * P.cellsOf e)) (P.cellsOf e) = some cs' ∧ d.K w y cs' ∧ good y) (fun i hi => by
    obtain ⟨cs', h1, h2⟩ := hx i (by omega)
    obtain ⟨y, h3, h4⟩ := he.opens _ _ _ h2
    exact ⟨y, cs', h1, h3, h4⟩)
   refine ⟨(List.range len).map f, ⟨some a, m, by simp, by simpa using hl, by simp, ?_, fun _ => ⟨a, rfl, fun j p hj => ?_⟩⟩, by simp; omega, fun y hy => ?_⟩
   ·simp only [List.length_map, List.length_range]; unfold maxLen at hm; omega
   ·have hj' : j < len := by
     have := (List.getElem?_eq_some_iff.1 hj).1
     simpa using this
    obtain ⟨cs', h1, h2, h3⟩ := hf j hj'
    have hp : f j = p := by simpa [hj'] using hj
    subst hp
    obtain ⟨_, h4, h5⟩ := World.cells?_some h1
    rw [he.sz] at h4 h5
    refine ⟨cs', h4, h2, fun i u hu => ?_⟩
    have hi : i < d.sz := by
     have := (List.getElem?_eq_some_iff.1 hu).1
     omega
    rw [← hu, ← h5 i hi, Go.Deep.add_add]
   ·obtain ⟨i, hi, rfl⟩ := List.mem_map.1 hy
    obtain ⟨_, _, _, h3⟩ := hf i (List.mem_range.1 hi)
    exact h3⟩
structure RdF {α : Type} (P : Program) (d : Kd α) (fs : List Field) (off : Nat) (good : α → Prop) : Prop where
 opens : ∀ {H : Type} {enc : TypeId × Value → H} {w : World} {base : Nat} {held : Bool} (n : Nat) (cs : List Value), cs.length = off + d.sz →
  (∀ (i : Nat) (f : Field), fs[i]? = some f → ∃ x, DataW.trod enc P w base (fun _ => true) held n f.type ((cs.drop f.offset).take (P.cellsOf f.type)) = some x) → ∃ a : α, d.K w a (cs.drop off) ∧ good a
theorem RdF.one {α : Type} {P : Program} {d : Kd α} {f : Field} {off : Nat} {good : α → Prop} (h : Rd P d f.type good) (ho : f.offset = off) : RdF P d [f] off good := by
 constructor
 intro H enc w base held n cs hl hx
 obtain ⟨x, hx⟩ := hx 0 f rfl
 rw [ho, h.sz, List.take_of_length_le (by rw [List.length_drop]; omega)] at hx
 exact h.opens _ _ _ hx
theorem RdF.cons {α β : Type} {P : Program} {a : Kd α} {b : Kd β} {f : Field} {fs : List Field} {off : Nat} {ga : α → Prop} {gb : β → Prop} (h : Rd P a f.type ga) (ho : f.offset = off) (hr : RdF P b fs (off + a.sz) gb) :
  RdF P (Kd.pair a b) (f :: fs) off (fun x => ga x.1 ∧ gb x.2) := by
 constructor
 intro H enc w base held n cs hl hx
 have hl' : cs.length = off + (a.sz + b.sz) := hl
 obtain ⟨x, hx0⟩ := hx 0 f rfl
 rw [ho, h.sz] at hx0
 obtain ⟨u, hu, hgu⟩ := h.opens _ _ _ hx0
 obtain ⟨v, hv, hgv⟩ := hr.opens (enc := enc) (w := w) (base := base) (held := held) n cs (by omega) (fun i g hg => hx (i + 1) g hg)
 refine ⟨(u, v), ⟨_, _, ?_, hu, hv⟩, hgu, hgv⟩
 rw [← List.drop_drop]
 exact (List.take_append_drop _ _).symm
theorem Rd.struct {α β : Type} {P : Program} {t : TypeId} {d : Kd α} {fs : Array Field} {good : α → Prop} (ht : P.underlying t = some (.struct fs)) (hs : P.cellsOf t = d.sz) (hf : RdF P d fs.toList 0 good)
  (f : β → α) (g : α → β) (hfg : ∀ x, f (g x) = x) : Rd P (Kd.iso d f) t (fun x => good (f x)) :=
 ⟨hs, fun {H enc w base held} fuel cs x h => by
  obtain ⟨xs, n, rfl, rfl, hl, hl2, hx⟩ := DataW.trod_struct ht h
  obtain ⟨a, ha, hg⟩ := hf.opens (enc := enc) (w := w) (base := base) (held := held) n cs (by omega) (fun i f hfi => by
   have hfi' : fs[i]? = some f := by simpa using hfi
   rw [hx i f hfi']
   have hi : i < xs.length := by
    have := (Array.getElem?_eq_some_iff.1 hfi').1
    omega
   exact ⟨_, List.getElem?_eq_getElem hi⟩)
  refine ⟨g a, ?_, ?_⟩
  ·show d.K w (f (g a)) cs
   rw [hfg]
   simpa using ha
  ·show good (f (g a))
   rw [hfg]
   exact hg⟩
theorem Rd.arg {α : Type} {P : Program} {t e : TypeId} {d : Kd α} {good : List α → Prop} (h : Rd P (Kd.slice e d) t good) {H : Type} {enc : TypeId × Value → H} {w : World} {base : Nat} {held : Bool} {A : Option Addr} {len cap : Nat} {D : DataW H} {p : List MemPlace}
  (hr : DataW.Trod enc P w base (fun _ => true) held t (.slice A len cap) D p) : ∃ l : List α, len = l.length ∧ l.length ≤ cap ∧ d.C w A l.length l ∧ good l := by
 obtain ⟨fuel, hf⟩ := hr
 obtain ⟨l, ⟨A', c, he, hc, hC⟩, hg⟩ := h.opens fuel _ _ hf
 have he' : [Value.slice A len cap] = [Value.slice A' l.length c] := by simpa [Value.cells] using he
 injection he' with he' _
 injection he' with h1 h2 h3
 subst h1 h2 h3
 exact ⟨l, rfl, hc, hC, hg⟩
end Go.Proofs.YtnemooemifbbhaaDoor.Frame
