/- From the row's condition (what the library's one table reads as) to the fact that the walks ask; a world that meets it. -/
import Derived.Test.YtjekpecobkaaoaaDoorRows
import Derived.Test.YtjekpecobkaaoaaDoorPAllx9
import Derived.LaidLaws
import Derived.LaidOnce
import Derived.LaidMore
import Derived.MakeChecks
import Derived.Lib.LaidTab
import Derived.KernelRfl
namespace Go.Proofs.YtjekpecobkaaoaaDoor.Laid
open Go Go.RowKit Go.Proofs.YtjekpecobkaaoaaDoor Go.Proofs.YtjekpecobkaaoaaDoor.PAll
def laid : List (String × DataW Unit) := [("math/bits.deBruijn64tab", Rows.laid_math_bits_deBruijn64tab)]
def zs : List Int := Lib.deBruijn64tab.map Int.ofNat
theorem laid_eq : laid = [("math/bits.deBruijn64tab", Lib.tabData .u8 zs)] := rfl
set_option maxRecDepth 100000 in
theorem tab_of_laid {W : World} (h : laidMetH Tryd.prog laid W) : TabW W := by
  rw [MakeChecks.laidMetH_plain _ _ _ (by kernel_rfl), laid_eq] at h
  have hg : Tryd.prog.globalNamed "math/bits.deBruijn64tab" = some 0 := by kernel_rfl
  have ht := Lib.tabIs_of_head (P := Tryd.prog) (W := W) (name := "math/bits.deBruijn64tab") (k := .u8) (zs := zs) (rest := []) (g := 0) (t := 71) (e := 5) (n := 64) hg (by kernel_rfl) (by kernel_rfl) (by kernel_rfl) (by kernel_rfl) (by kernel_rfl) h
  intro j hj
  have hz : zs.length = Lib.deBruijn64tab.length := by simp [zs]
  have hc := Lib.TabIs.cell ht hg j (by omega)
  rw [hc]
  congr 2
  unfold zs
  rw [List.getD_eq_getElem?_getD, List.getD_eq_getElem?_getD, List.getElem?_map, List.getElem?_eq_getElem hj]
  rfl
theorem door_met (os : Os) (args : Array Value) : laidMetH Tryd.prog laid ((World.doorLaid Tryd.prog 14 os).forCall (fun _ _ => 0) ⟨#[], args, []⟩).memory :=
  laidMetH_of_parts3 (fuel := 8) (laidMet_of_run' 8 (by kernel_rfl) (by kernel_rfl)) (by kernel_rfl) (by kernel_rfl)
end Go.Proofs.YtjekpecobkaaoaaDoor.Laid
