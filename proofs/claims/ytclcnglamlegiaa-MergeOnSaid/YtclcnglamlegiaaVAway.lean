/- A row that is only read lies in no block that its footprint leaves out. Conditions: as the theorem says. -/
import Derived.Test.YtclcnglamlegiaaPMOx0
namespace Go.Proofs.Ytclcnglamlegiaa.VAway
open Go Go.RowKit Go.Proofs.YtclcnglamlegiaaW.PrintWords Go.Proofs.YtclcnglamlegiaaW.PrintLast Go.Proofs.YtclcnglamlegiaaW.PrintMore Go.Proofs.Ytclcnglamlegiaa.PMO
theorem away36 {W : World} {e base n c g : Nat} {ok : Nat → Prop} {ad : Addr} {xs : List S36} (h : Kd.V k36 e W base ok (.slice (some ad) n c) xs) (i : Int) (h0 : 0 ≤ i) (h1 : i < (xs.length : Int)) (hok : ∀ k, ok k → k ≠ g) : ad.block ≠ g := by
  obtain ⟨A, c', he, _, hF⟩ := h
  injection he with e1 e2 e3
  subst e1
  rintro rfl
  have h2 := hF { W with heap := W.heap.setIfInBounds ad.block (.map #[] 0) } (fun k hk _ => by
    show (W.heap.setIfInBounds ad.block _)[k]? = _
    rw [Array.getElem?_setIfInBounds]
    rw [if_neg (Ne.symm (hok k hk))])
  obtain ⟨ad', e4, h3, _⟩ := at_T36 h2 i h0 h1
  obtain rfl := Option.some.inj e4
  have hb : ad.block < W.heap.size := by
    have := World.block_lt_of_cell? _ _ h3
    rw [add_block] at this
    simpa using this
  have h4 : (W.heap.setIfInBounds ad.block (.map #[] 0))[ad.block]? = some (.map #[] 0) := by
    rw [Array.getElem?_setIfInBounds]
    simp [hb]
  unfold World.cell? at h3
  simp only [add_block] at h3
  rw [h4] at h3
  simp at h3
end Go.Proofs.Ytclcnglamlegiaa.VAway
