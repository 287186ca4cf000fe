/- What the law's arguments read as: arrays of three ints. Conditions: the types are the dump's own. -/
import Derived.Test.YtjekpecobkaaoaaDoorPPlx13
import Derived.Test.YtjekpecobkaaoaaDoorFrame
import Derived.KernelRfl
import Derived.OpenShut
namespace Go.Proofs.YtjekpecobkaaoaaDoor.PPl
open Go Go.RowKit Go.Proofs.YtjekpecobkaaoaaDoorW.PrintWords Go.Proofs.YtjekpecobkaaoaaDoor.Frame
structure S22 where
  f0 : Int
  f1 : Int
  f2 : Int
def good22 (x : S22) : Prop := (inK .i64) x.f0 ∧ (inK .i64) x.f1 ∧ (inK .i64) x.f2
theorem okWide_array {P : Program} {w : World} {r : Reach} {base : Nat} {t : TypeId} {v : Value} {n : Nat} {e : TypeId} (ht : P.underlying t = some (.array n e)) (h : Value.okWide P w r base t v) : ∃ cs, v = .agg cs ∧ cs.size = P.cellsOf t := by
  simp only [Value.okWide, ht] at h
  obtain ⟨cs, h1, h2, _⟩ := h
  exact ⟨cs, h1, h2⟩
theorem arr_arg {H : Type} {enc : TypeId × Value → H} {w : World} {base : Nat} {held : Bool} {vs : Array Value} {D : DataW H} {p : List MemPlace} (hr : DataW.Trod enc Tryd.prog w base (fun _ => true) held 22 (.agg vs) D p) :
    ∃ a : S22, vs = #[.int .i64 a.f0, .int .i64 a.f1, .int .i64 a.f2] ∧ good22 a := by
  obtain ⟨fuel, hf⟩ := hr
  have h : DataW.trod enc Tryd.prog w base (fun _ => true) held fuel 22 vs.toList = some (D, p) := by simpa [Value.cells] using hf
  obtain ⟨xs, m, rfl, _, hl, hl2, hx⟩ := DataW.trod_array Tryd.underlying22 h
  have hc3 : Tryd.prog.cellsOf 3 = 1 := by kernel_rfl
  have hc22 : Tryd.prog.cellsOf 22 = 3 := by kernel_rfl
  rw [hc22] at hl
  rw [hc3] at hx
  have get : ∀ i, i < 3 → ∃ n : Int, vs.toList[i]? = some (.int .i64 n) ∧ inK .i64 n := by
    intro i hi
    have h1 := hx i hi
    rw [List.getElem?_eq_getElem (show i < xs.length by omega)] at h1
    obtain ⟨n, e1, _, hw⟩ := DataW.trod_int Tryd.underlying3 h1
    refine ⟨n, ?_, hw⟩
    have := congrArg (fun l => l[0]?) e1
    simpa using this
  obtain ⟨n0, e0, g0⟩ := get 0 (by omega)
  obtain ⟨n1, e1, g1⟩ := get 1 (by omega)
  obtain ⟨n2, e2, g2⟩ := get 2 (by omega)
  refine ⟨⟨n0, n1, n2⟩, ?_, g0, g1, g2⟩
  apply Array.ext'
  apply List.ext_getElem?
  intro i
  match i with
  | 0 => simpa using e0
  | 1 => simpa using e1
  | 2 => simpa using e2
  | i + 3 =>
    rw [List.getElem?_eq_none (by omega)]
    simp
def oriellaw03_PackPlaces.Pure : Prop := ∀ (a0 : S22) (a1 : S22), good22 a0 → good22 a1 → ∃ k, oriellaw03_PackPlaces.f k a0.f0 a0.f1 a0.f2 a1.f0 a1.f1 a1.f2 = some true
end Go.Proofs.YtjekpecobkaaoaaDoor.PPl
