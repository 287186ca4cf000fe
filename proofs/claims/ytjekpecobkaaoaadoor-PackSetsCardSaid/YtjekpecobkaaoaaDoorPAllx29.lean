-- Written by ownprint.py, a program of this session (out of the kit's print, with contracts of the session's own).
import Derived.Test.YtjekpecobkaaoaaDoorPAllx0
import Derived.Test.YtjekpecobkaaoaaDoorPAllx4
import Derived.Test.YtjekpecobkaaoaaDoorPAllx6
import Derived.Test.YtjekpecobkaaoaaDoorPAllx7
import Derived.Test.YtjekpecobkaaoaaDoorPAllx8
import Derived.Test.YtjekpecobkaaoaaDoorPAllx10
import Derived.Test.YtjekpecobkaaoaaDoorPAllx11
import Derived.Test.YtjekpecobkaaoaaDoorPAllx22
import Derived.Test.YtjekpecobkaaoaaDoorPAllx23
import Derived.Test.YtjekpecobkaaoaaDoorPAllx25
import Derived.Test.YtjekpecobkaaoaaDoorPAllx26
import Derived.Test.YtjekpecobkaaoaaDoorPAllx27
import Derived.Test.YtjekpecobkaaoaaDoorPAllx28
namespace Go.Proofs.YtjekpecobkaaoaaDoor.PAll
open Go.RowKit Go.Proofs.YtjekpecobkaaoaaDoorW.PrintWords Go.Proofs.YtjekpecobkaaoaaDoorW.PrintLast Go.Proofs.YtjekpecobkaaoaaDoorW.PrintMore
attribute [local go_sem] max2_int min2_int max_two min_two max_three min_three max_four min_four   -- for this text's walks alone
set_option linter.unusedVariables false
set_option linter.unusedSimpArgs false

/-! ### oriellaw03_PackSets: function 7 -/
mutual
def oriellaw03_PackSets.j0 : Nat → List Int → List Int → List Int → Int → Bool → Option (Bool)
  | 0, _, _, _, _, _ => none
  | k + 1, x0, x1, x2, x3, x33 => if x33 = true then ((oriellaw03_alive.f k).bind fun t438 => (some t438)) else ((orielref03_List.f k x0).bind fun t439 => ((orielref03_List.f k x1).bind fun t442 => ((some (([] : List Int) : List Int)).bind fun y445 => (if y445.length + x0.length < 17592186044416 then (oriellaw03_PackSets.l0 k x0 x2 x3 t439 t442 (y445 ++ x0) x0 x1 ([] : List Int) t439 (t439.length : Int) 0) else (none)))))
def oriellaw03_PackSets.l0 : Nat → List Int → List Int → Int → List Int → List Int → List Int → List Int → List Int → List Int → List Int → Int → Int → Option (Bool)
  | 0, _, _, _, _, _, _, _, _, _, _, _, _ => none
  | k + 1, x0, x2, x3, x9, x10, x11, x12, x13, x14, x44, x45, x46 => if x46 < x45 then (if 0 ≤ x46 then (if x46 < (x44.length : Int) then ((orielref03_In.f k x10 (rd x44 x46)).bind fun t452 => (if t452 = true then (oriellaw03_PackSets.l0 k x0 x2 x3 x9 x10 x11 x12 x13 x14 x44 x45 (wrap64 (x46 + 1))) else (if x14.length < 17592186044416 then (oriellaw03_PackSets.l0 k x0 x2 x3 x9 x10 x11 x12 x13 (x14 ++ [rd x44 x46]) x44 x45 (wrap64 (x46 + 1))) else (none)))) else (none)) else (none)) else (oriellaw03_PackSets.l1 k x0 x2 x3 x9 x10 x11 x12 x13 x14 (([] : List Int)) x9 (x9.length : Int) 0)
def oriellaw03_PackSets.l1 : Nat → List Int → List Int → Int → List Int → List Int → List Int → List Int → List Int → List Int → List Int → List Int → Int → Int → Option (Bool)
  | 0, _, _, _, _, _, _, _, _, _, _, _, _, _ => none
  | k + 1, x0, x2, x3, x9, x10, x11, x12, x13, x14, x17, x60, x61, x62 => if x62 < x61 then (if 0 ≤ x62 then (if x62 < (x60.length : Int) then (if (rd x60 x62) = x3 then (oriellaw03_PackSets.l1 k x0 x2 x3 x9 x10 x11 x12 x13 x14 x17 x60 x61 (wrap64 (x62 + 1))) else (if x17.length < 17592186044416 then (oriellaw03_PackSets.l1 k x0 x2 x3 x9 x10 x11 x12 x13 x14 (x17 ++ [rd x60 x62]) x60 x61 (wrap64 (x62 + 1))) else (none))) else (none)) else (none)) else ((pack_Set_List.f k x12).bind fun t463 => ((oriellaw01_Ints.f k t463 x9).bind fun t466 => (if t466 = true then ((pack_Set_Len.f k x12).bind fun t467 => (if t467 = (x9.length : Int) then ((pack_Set_Has.f x12 x3).bind fun t468 => ((orielref03_In.f k x9 x3).bind fun t469 => (if (t468 != t469) = true then (none) else ((pack_Set_Rest.f k x12 x13).bind fun t470 => ((pack_Set_List.f k t470).bind fun t473 => ((oriellaw01_Ints.f k t473 x14).bind fun t476 => (if t476 = true then ((pack_Set_Without.f k x12 x3).bind fun t477 => ((pack_Set_List.f k t477).bind fun t480 => ((oriellaw01_Ints.f k t480 x17).bind fun t483 => (if t483 = true then ((pack_Of.f k x2).bind fun t484 => ((pack_Set_List.f k t484).bind fun t487 => ((orielref03_Rising.f k x2).bind fun t490 => ((oriellaw01_Ints.f k t487 t490).bind fun t493 => (oriellaw03_PackSets.j3 k x0 x3 x9 x10 x11 x12 x13 (!t493)))))) else (none))))) else (none)))))))) else (none))) else (none))))
def oriellaw03_PackSets.j3 : Nat → List Int → Int → List Int → List Int → List Int → List Int → List Int → Bool → Option (Bool)
  | 0, _, _, _, _, _, _, _, _ => none
  | k + 1, x0, x3, x9, x10, x11, x12, x13, x121 => if x121 = true then (none) else (if (wrap64 ((x9.length : Int) + (x10.length : Int))) ≤ 300 then ((pack_Set_Join.f k x12 x13).bind fun t494 => ((pack_Set_List.f k t494).bind fun t497 => ((some (([] : List Int) : List Int)).bind fun y500 => (if y500.length + x9.length < 17592186044416 then ((some (y500 ++ x9 : List Int)).bind fun y503 => (if y503.length + x10.length < 17592186044416 then ((orielref03_Rising.f k (y503 ++ x10)).bind fun t509 => ((oriellaw01_Ints.f k t497 t509).bind fun t512 => (if t512 = true then ((pack_Set_With.f k x12 x3).bind fun t513 => ((pack_Set_List.f k t513).bind fun t516 => ((some (([] : List Int) : List Int)).bind fun y519 => (if y519.length + x9.length < 17592186044416 then ((some (y519 ++ x9 : List Int)).bind fun y522 => (if y522.length < 17592186044416 then ((orielref03_Rising.f k (y522 ++ [x3])).bind fun t528 => ((oriellaw01_Ints.f k t516 t528).bind fun t531 => (oriellaw03_PackSets.j4 k x0 x11 (!t531)))) else (none))) else (none))))) else (none)))) else (none))) else (none))))) else (oriellaw03_PackSets.j4 k x0 x11 false))
def oriellaw03_PackSets.j4 : Nat → List Int → List Int → Bool → Option (Bool)
  | 0, _, _, _ => none
  | k + 1, x0, x11, x156 => if x156 = true then (none) else (oriellaw03_PackSets.l2 k x0 x11 (x11.length : Int) 0)
def oriellaw03_PackSets.l2 : Nat → List Int → List Int → Int → Int → Option (Bool)
  | 0, _, _, _, _ => none
  | k + 1, x0, x11, x158, x159 => if x159 < x158 then (if 0 ≤ x159 then (if x159 < (x11.length : Int) then (if x159 < (x0.length : Int) then (if (rd x11 x159) = (rd x0 x159) then (oriellaw03_PackSets.l2 k x0 x11 x158 (wrap64 (x159 + 1))) else (none)) else (none)) else (none)) else (none)) else ((oriellaw03_alive.f k).bind fun t534 => (some t534))
end
def oriellaw03_PackSets.f (k : Nat) (l0 : List Int) (l1 : List Int) (l2 : List Int) (a3 : Int) : Option (Bool) := if (l0.length : Int) > 1100 then (oriellaw03_PackSets.j0 k l0 l1 l2 a3 true) else (if (l1.length : Int) > 1100 then (oriellaw03_PackSets.j0 k l0 l1 l2 a3 true) else (oriellaw03_PackSets.j0 k l0 l1 l2 a3 (decide ((l2.length : Int) > 100))))
theorem oriellaw03_PackSets.mono_l : ∀ k, (∀ y0 y1 y2 y3 y4, LeO (oriellaw03_PackSets.j0 k y0 y1 y2 y3 y4) (oriellaw03_PackSets.j0 (k + 1) y0 y1 y2 y3 y4)) ∧ (∀ y0 y1 y2 y3 y4 y5 y6 y7 y8 y9 y10 y11, LeO (oriellaw03_PackSets.l0 k y0 y1 y2 y3 y4 y5 y6 y7 y8 y9 y10 y11) (oriellaw03_PackSets.l0 (k + 1) y0 y1 y2 y3 y4 y5 y6 y7 y8 y9 y10 y11)) ∧ (∀ y0 y1 y2 y3 y4 y5 y6 y7 y8 y9 y10 y11 y12, LeO (oriellaw03_PackSets.l1 k y0 y1 y2 y3 y4 y5 y6 y7 y8 y9 y10 y11 y12) (oriellaw03_PackSets.l1 (k + 1) y0 y1 y2 y3 y4 y5 y6 y7 y8 y9 y10 y11 y12)) ∧ (∀ y0 y1 y2 y3 y4 y5 y6 y7, LeO (oriellaw03_PackSets.j3 k y0 y1 y2 y3 y4 y5 y6 y7) (oriellaw03_PackSets.j3 (k + 1) y0 y1 y2 y3 y4 y5 y6 y7)) ∧ (∀ y0 y1 y2, LeO (oriellaw03_PackSets.j4 k y0 y1 y2) (oriellaw03_PackSets.j4 (k + 1) y0 y1 y2)) ∧ (∀ y0 y1 y2 y3, LeO (oriellaw03_PackSets.l2 k y0 y1 y2 y3) (oriellaw03_PackSets.l2 (k + 1) y0 y1 y2 y3))
  | 0 => ⟨fun _ _ _ _ _ r h => by simp [oriellaw03_PackSets.j0] at h, fun _ _ _ _ _ _ _ _ _ _ _ _ r h => by simp [oriellaw03_PackSets.l0] at h, fun _ _ _ _ _ _ _ _ _ _ _ _ _ r h => by simp [oriellaw03_PackSets.l1] at h, fun _ _ _ _ _ _ _ _ r h => by simp [oriellaw03_PackSets.j3] at h, fun _ _ _ r h => by simp [oriellaw03_PackSets.j4] at h, fun _ _ _ _ r h => by simp [oriellaw03_PackSets.l2] at h⟩
  | k + 1 => by
    obtain ⟨ih0, ih1, ih2, ih3, ih4, ih5⟩ := oriellaw03_PackSets.mono_l k
    refine ⟨?_, ?_, ?_, ?_, ?_, ?_⟩
    · intro y0 y1 y2 y3 y4
      unfold oriellaw03_PackSets.j0
      repeat' first
      | (with_reducible exact ih0 _ _ _ _ _)
      | (with_reducible exact ih1 _ _ _ _ _ _ _ _ _ _ _ _)
      | (with_reducible exact ih2 _ _ _ _ _ _ _ _ _ _ _ _ _)
      | (with_reducible exact ih3 _ _ _ _ _ _ _ _)
      | (with_reducible exact ih4 _ _ _)
      | (with_reducible exact ih5 _ _ _ _)
      | (with_reducible exact oriellaw01_Ints.mono _ _ _)
      | (with_reducible exact oriellaw03_alive.mono _)
      | (with_reducible exact orielref03_In.mono _ _ _)
      | (with_reducible exact orielref03_List.mono _ _)
      | (with_reducible exact orielref03_Rising.mono _ _)
      | (with_reducible exact pack_Of.mono _ _)
      | (with_reducible exact pack_Set_Join.mono _ _ _)
      | (with_reducible exact pack_Set_Len.mono _ _)
      | (with_reducible exact pack_Set_List.mono _ _)
      | (with_reducible exact pack_Set_Rest.mono _ _ _)
      | (with_reducible exact pack_Set_With.mono _ _ _)
      | (with_reducible exact pack_Set_Without.mono _ _ _)
      | (with_reducible exact LeO.refl _)
      | (with_reducible exact LeO.none _)
      | (with_reducible refine LeO.ite ?_ ?_)
      | (with_reducible refine LeO.bind ?_ (fun _ => ?_))
      | exact ih0 _ _ _ _ _
      | exact ih1 _ _ _ _ _ _ _ _ _ _ _ _
      | exact ih2 _ _ _ _ _ _ _ _ _ _ _ _ _
      | exact ih3 _ _ _ _ _ _ _ _
      | exact ih4 _ _ _
      | exact ih5 _ _ _ _
      | exact oriellaw01_Ints.mono _ _ _
      | exact oriellaw03_alive.mono _
      | exact orielref03_In.mono _ _ _
      | exact orielref03_List.mono _ _
      | exact orielref03_Rising.mono _ _
      | exact pack_Of.mono _ _
      | exact pack_Set_Join.mono _ _ _
      | exact pack_Set_Len.mono _ _
      | exact pack_Set_List.mono _ _
      | exact pack_Set_Rest.mono _ _ _
      | exact pack_Set_With.mono _ _ _
      | exact pack_Set_Without.mono _ _ _
      | exact LeO.none _
      | refine LeO.ite ?_ ?_
      | refine LeO.bind ?_ (fun _ => ?_)
    · intro y0 y1 y2 y3 y4 y5 y6 y7 y8 y9 y10 y11
      unfold oriellaw03_PackSets.l0
      repeat' first
      | (with_reducible exact ih0 _ _ _ _ _)
      | (with_reducible exact ih1 _ _ _ _ _ _ _ _ _ _ _ _)
      | (with_reducible exact ih2 _ _ _ _ _ _ _ _ _ _ _ _ _)
      | (with_reducible exact ih3 _ _ _ _ _ _ _ _)
      | (with_reducible exact ih4 _ _ _)
      | (with_reducible exact ih5 _ _ _ _)
      | (with_reducible exact oriellaw01_Ints.mono _ _ _)
      | (with_reducible exact oriellaw03_alive.mono _)
      | (with_reducible exact orielref03_In.mono _ _ _)
      | (with_reducible exact orielref03_List.mono _ _)
      | (with_reducible exact orielref03_Rising.mono _ _)
      | (with_reducible exact pack_Of.mono _ _)
      | (with_reducible exact pack_Set_Join.mono _ _ _)
      | (with_reducible exact pack_Set_Len.mono _ _)
      | (with_reducible exact pack_Set_List.mono _ _)
      | (with_reducible exact pack_Set_Rest.mono _ _ _)
      | (with_reducible exact pack_Set_With.mono _ _ _)
      | (with_reducible exact pack_Set_Without.mono _ _ _)
      | (with_reducible exact LeO.refl _)
      | (with_reducible exact LeO.none _)
      | (with_reducible refine LeO.ite ?_ ?_)
      | (with_reducible refine LeO.bind ?_ (fun _ => ?_))
      | exact ih0 _ _ _ _ _
      | exact ih1 _ _ _ _ _ _ _ _ _ _ _ _
      | exact ih2 _ _ _ _ _ _ _ _ _ _ _ _ _
      | exact ih3 _ _ _ _ _ _ _ _
      | exact ih4 _ _ _
      | exact ih5 _ _ _ _
      | exact oriellaw01_Ints.mono _ _ _
      | exact oriellaw03_alive.mono _
      | exact orielref03_In.mono _ _ _
      | exact orielref03_List.mono _ _
      | exact orielref03_Rising.mono _ _
      | exact pack_Of.mono _ _
      | exact pack_Set_Join.mono _ _ _
      | exact pack_Set_Len.mono _ _
      | exact pack_Set_List.mono _ _
      | exact pack_Set_Rest.mono _ _ _
      | exact pack_Set_With.mono _ _ _
      | exact pack_Set_Without.mono _ _ _
      | exact LeO.none _
      | refine LeO.ite ?_ ?_
      | refine LeO.bind ?_ (fun _ => ?_)
    · intro y0 y1 y2 y3 y4 y5 y6 y7 y8 y9 y10 y11 y12
      unfold oriellaw03_PackSets.l1
      repeat' first
      | (with_reducible exact ih0 _ _ _ _ _)
      | (with_reducible exact ih1 _ _ _ _ _ _ _ _ _ _ _ _)
      | (with_reducible exact ih2 _ _ _ _ _ _ _ _ _ _ _ _ _)
      | (with_reducible exact ih3 _ _ _ _ _ _ _ _)
      | (with_reducible exact ih4 _ _ _)
      | (with_reducible exact ih5 _ _ _ _)
      | (with_reducible exact oriellaw01_Ints.mono _ _ _)
      | (with_reducible exact oriellaw03_alive.mono _)
      | (with_reducible exact orielref03_In.mono _ _ _)
      | (with_reducible exact orielref03_List.mono _ _)
      | (with_reducible exact orielref03_Rising.mono _ _)
      | (with_reducible exact pack_Of.mono _ _)
      | (with_reducible exact pack_Set_Join.mono _ _ _)
      | (with_reducible exact pack_Set_Len.mono _ _)
      | (with_reducible exact pack_Set_List.mono _ _)
      | (with_reducible exact pack_Set_Rest.mono _ _ _)
      | (with_reducible exact pack_Set_With.mono _ _ _)
      | (with_reducible exact pack_Set_Without.mono _ _ _)
      | (with_reducible exact LeO.refl _)
      | (with_reducible exact LeO.none _)
      | (with_reducible refine LeO.ite ?_ ?_)
      | (with_reducible refine LeO.bind ?_ (fun _ => ?_))
      | exact ih0 _ _ _ _ _
      | exact ih1 _ _ _ _ _ _ _ _ _ _ _ _
      | exact ih2 _ _ _ _ _ _ _ _ _ _ _ _ _
      | exact ih3 _ _ _ _ _ _ _ _
      | exact ih4 _ _ _
      | exact ih5 _ _ _ _
      | exact oriellaw01_Ints.mono _ _ _
      | exact oriellaw03_alive.mono _
      | exact orielref03_In.mono _ _ _
      | exact orielref03_List.mono _ _
      | exact orielref03_Rising.mono _ _
      | exact pack_Of.mono _ _
      | exact pack_Set_Join.mono _ _ _
      | exact pack_Set_Len.mono _ _
      | exact pack_Set_List.mono _ _
      | exact pack_Set_Rest.mono _ _ _
      | exact pack_Set_With.mono _ _ _
      | exact pack_Set_Without.mono _ _ _
      | exact LeO.none _
      | refine LeO.ite ?_ ?_
      | refine LeO.bind ?_ (fun _ => ?_)
    · intro y0 y1 y2 y3 y4 y5 y6 y7
      unfold oriellaw03_PackSets.j3
      repeat' first
      | (with_reducible exact ih0 _ _ _ _ _)
      | (with_reducible exact ih1 _ _ _ _ _ _ _ _ _ _ _ _)
      | (with_reducible exact ih2 _ _ _ _ _ _ _ _ _ _ _ _ _)
      | (with_reducible exact ih3 _ _ _ _ _ _ _ _)
      | (with_reducible exact ih4 _ _ _)
      | (with_reducible exact ih5 _ _ _ _)
      | (with_reducible exact oriellaw01_Ints.mono _ _ _)
      | (with_reducible exact oriellaw03_alive.mono _)
      | (with_reducible exact orielref03_In.mono _ _ _)
      | (with_reducible exact orielref03_List.mono _ _)
      | (with_reducible exact orielref03_Rising.mono _ _)
      | (with_reducible exact pack_Of.mono _ _)
      | (with_reducible exact pack_Set_Join.mono _ _ _)
      | (with_reducible exact pack_Set_Len.mono _ _)
      | (with_reducible exact pack_Set_List.mono _ _)
      | (with_reducible exact pack_Set_Rest.mono _ _ _)
      | (with_reducible exact pack_Set_With.mono _ _ _)
      | (with_reducible exact pack_Set_Without.mono _ _ _)
      | (with_reducible exact LeO.refl _)
      | (with_reducible exact LeO.none _)
      | (with_reducible refine LeO.ite ?_ ?_)
      | (with_reducible refine LeO.bind ?_ (fun _ => ?_))
      | exact ih0 _ _ _ _ _
      | exact ih1 _ _ _ _ _ _ _ _ _ _ _ _
      | exact ih2 _ _ _ _ _ _ _ _ _ _ _ _ _
      | exact ih3 _ _ _ _ _ _ _ _
      | exact ih4 _ _ _
      | exact ih5 _ _ _ _
      | exact oriellaw01_Ints.mono _ _ _
      | exact oriellaw03_alive.mono _
      | exact orielref03_In.mono _ _ _
      | exact orielref03_List.mono _ _
      | exact orielref03_Rising.mono _ _
      | exact pack_Of.mono _ _
      | exact pack_Set_Join.mono _ _ _
      | exact pack_Set_Len.mono _ _
      | exact pack_Set_List.mono _ _
      | exact pack_Set_Rest.mono _ _ _
      | exact pack_Set_With.mono _ _ _
      | exact pack_Set_Without.mono _ _ _
      | exact LeO.none _
      | refine LeO.ite ?_ ?_
      | refine LeO.bind ?_ (fun _ => ?_)
    · intro y0 y1 y2
      unfold oriellaw03_PackSets.j4
      repeat' first
      | (with_reducible exact ih0 _ _ _ _ _)
      | (with_reducible exact ih1 _ _ _ _ _ _ _ _ _ _ _ _)
      | (with_reducible exact ih2 _ _ _ _ _ _ _ _ _ _ _ _ _)
      | (with_reducible exact ih3 _ _ _ _ _ _ _ _)
      | (with_reducible exact ih4 _ _ _)
      | (with_reducible exact ih5 _ _ _ _)
      | (with_reducible exact oriellaw01_Ints.mono _ _ _)
      | (with_reducible exact oriellaw03_alive.mono _)
      | (with_reducible exact orielref03_In.mono _ _ _)
      | (with_reducible exact orielref03_List.mono _ _)
      | (with_reducible exact orielref03_Rising.mono _ _)
      | (with_reducible exact pack_Of.mono _ _)
      | (with_reducible exact pack_Set_Join.mono _ _ _)
      | (with_reducible exact pack_Set_Len.mono _ _)
      | (with_reducible exact pack_Set_List.mono _ _)
      | (with_reducible exact pack_Set_Rest.mono _ _ _)
      | (with_reducible exact pack_Set_With.mono _ _ _)
      | (with_reducible exact pack_Set_Without.mono _ _ _)
      | (with_reducible exact LeO.refl _)
      | (with_reducible exact LeO.none _)
      | (with_reducible refine LeO.ite ?_ ?_)
      | (with_reducible refine LeO.bind ?_ (fun _ => ?_))
      | exact ih0 _ _ _ _ _
      | exact ih1 _ _ _ _ _ _ _ _ _ _ _ _
      | exact ih2 _ _ _ _ _ _ _ _ _ _ _ _ _
      | exact ih3 _ _ _ _ _ _ _ _
      | exact ih4 _ _ _
      | exact ih5 _ _ _ _
      | exact oriellaw01_Ints.mono _ _ _
      | exact oriellaw03_alive.mono _
      | exact orielref03_In.mono _ _ _
      | exact orielref03_List.mono _ _
      | exact orielref03_Rising.mono _ _
      | exact pack_Of.mono _ _
      | exact pack_Set_Join.mono _ _ _
      | exact pack_Set_Len.mono _ _
      | exact pack_Set_List.mono _ _
      | exact pack_Set_Rest.mono _ _ _
      | exact pack_Set_With.mono _ _ _
      | exact pack_Set_Without.mono _ _ _
      | exact LeO.none _
      | refine LeO.ite ?_ ?_
      | refine LeO.bind ?_ (fun _ => ?_)
    · intro y0 y1 y2 y3
      unfold oriellaw03_PackSets.l2
      repeat' first
      | (with_reducible exact ih0 _ _ _ _ _)
      | (with_reducible exact ih1 _ _ _ _ _ _ _ _ _ _ _ _)
      | (with_reducible exact ih2 _ _ _ _ _ _ _ _ _ _ _ _ _)
      | (with_reducible exact ih3 _ _ _ _ _ _ _ _)
      | (with_reducible exact ih4 _ _ _)
      | (with_reducible exact ih5 _ _ _ _)
      | (with_reducible exact oriellaw01_Ints.mono _ _ _)
      | (with_reducible exact oriellaw03_alive.mono _)
      | (with_reducible exact orielref03_In.mono _ _ _)
      | (with_reducible exact orielref03_List.mono _ _)
      | (with_reducible exact orielref03_Rising.mono _ _)
      | (with_reducible exact pack_Of.mono _ _)
      | (with_reducible exact pack_Set_Join.mono _ _ _)
      | (with_reducible exact pack_Set_Len.mono _ _)
      | (with_reducible exact pack_Set_List.mono _ _)
      | (with_reducible exact pack_Set_Rest.mono _ _ _)
      | (with_reducible exact pack_Set_With.mono _ _ _)
      | (with_reducible exact pack_Set_Without.mono _ _ _)
      | (with_reducible exact LeO.refl _)
      | (with_reducible exact LeO.none _)
      | (with_reducible refine LeO.ite ?_ ?_)
      | (with_reducible refine LeO.bind ?_ (fun _ => ?_))
      | exact ih0 _ _ _ _ _
      | exact ih1 _ _ _ _ _ _ _ _ _ _ _ _
      | exact ih2 _ _ _ _ _ _ _ _ _ _ _ _ _
      | exact ih3 _ _ _ _ _ _ _ _
      | exact ih4 _ _ _
      | exact ih5 _ _ _ _
      | exact oriellaw01_Ints.mono _ _ _
      | exact oriellaw03_alive.mono _
      | exact orielref03_In.mono _ _ _
      | exact orielref03_List.mono _ _
      | exact orielref03_Rising.mono _ _
      | exact pack_Of.mono _ _
      | exact pack_Set_Join.mono _ _ _
      | exact pack_Set_Len.mono _ _
      | exact pack_Set_List.mono _ _
      | exact pack_Set_Rest.mono _ _ _
      | exact pack_Set_With.mono _ _ _
      | exact pack_Set_Without.mono _ _ _
      | exact LeO.none _
      | refine LeO.ite ?_ ?_
      | refine LeO.bind ?_ (fun _ => ?_)
theorem oriellaw03_PackSets.mono : ∀ a0 a1 a2 a3 k, LeO (oriellaw03_PackSets.f k a0 a1 a2 a3) (oriellaw03_PackSets.f (k + 1) a0 a1 a2 a3) := by
  intro a0 a1 a2 a3 k
  obtain ⟨ih0, ih1, ih2, ih3, ih4, ih5⟩ := oriellaw03_PackSets.mono_l k
  unfold oriellaw03_PackSets.f
  repeat' first
      | (with_reducible exact ih0 _ _ _ _ _)
      | (with_reducible exact ih1 _ _ _ _ _ _ _ _ _ _ _ _)
      | (with_reducible exact ih2 _ _ _ _ _ _ _ _ _ _ _ _ _)
      | (with_reducible exact ih3 _ _ _ _ _ _ _ _)
      | (with_reducible exact ih4 _ _ _)
      | (with_reducible exact ih5 _ _ _ _)
      | (with_reducible exact oriellaw01_Ints.mono _ _ _)
      | (with_reducible exact oriellaw03_alive.mono _)
      | (with_reducible exact orielref03_In.mono _ _ _)
      | (with_reducible exact orielref03_List.mono _ _)
      | (with_reducible exact orielref03_Rising.mono _ _)
      | (with_reducible exact pack_Of.mono _ _)
      | (with_reducible exact pack_Set_Join.mono _ _ _)
      | (with_reducible exact pack_Set_Len.mono _ _)
      | (with_reducible exact pack_Set_List.mono _ _)
      | (with_reducible exact pack_Set_Rest.mono _ _ _)
      | (with_reducible exact pack_Set_With.mono _ _ _)
      | (with_reducible exact pack_Set_Without.mono _ _ _)
      | (with_reducible exact LeO.refl _)
      | (with_reducible exact LeO.none _)
      | (with_reducible refine LeO.ite ?_ ?_)
      | (with_reducible refine LeO.bind ?_ (fun _ => ?_))
      | exact ih0 _ _ _ _ _
      | exact ih1 _ _ _ _ _ _ _ _ _ _ _ _
      | exact ih2 _ _ _ _ _ _ _ _ _ _ _ _ _
      | exact ih3 _ _ _ _ _ _ _ _
      | exact ih4 _ _ _
      | exact ih5 _ _ _ _
      | exact oriellaw01_Ints.mono _ _ _
      | exact oriellaw03_alive.mono _
      | exact orielref03_In.mono _ _ _
      | exact orielref03_List.mono _ _
      | exact orielref03_Rising.mono _ _
      | exact pack_Of.mono _ _
      | exact pack_Set_Join.mono _ _ _
      | exact pack_Set_Len.mono _ _
      | exact pack_Set_List.mono _ _
      | exact pack_Set_Rest.mono _ _ _
      | exact pack_Set_With.mono _ _ _
      | exact pack_Set_Without.mono _ _ _
      | exact LeO.none _
      | refine LeO.ite ?_ ?_
      | refine LeO.bind ?_ (fun _ => ?_)
set_option maxHeartbeats 8000000 in
set_option maxRecDepth 100000 in
theorem oriellaw03_PackSets.calls (k : Nat) (A0 : Option Addr) (c0 : Nat) (l0 : List Int) (A1 : Option Addr) (c1 : Nat) (l1 : List Int) (A2 : Option Addr) (c2 : Nat) (l2 : List Int) (a3 : Int) (r : Bool) (w : World) (hr0 : Kd.C (Kd.int .u64) w A0 l0.length l0) (hc0 : l0.length ≤ c0) (hr1 : Kd.C (Kd.int .u64) w A1 l1.length l1) (hc1 : l1.length ≤ c1) (hr2 : Kd.C (Kd.int .i64) w A2 l2.length l2) (hc2 : l2.length ≤ c2) (hT : TabW w) (h : oriellaw03_PackSets.f k l0 l1 l2 a3 = some r) :
    Calls Tryd.prog 7 #[.slice A0 l0.length c0, .slice A1 l1.length c1, .slice A2 l2.length c2, .int .i64 a3] w fun e w' => e = .returned (.bool r) ∧ Below w.heap.size w w' := by
  have HT := Aside0.mk hT
  clear hT
  have HR0 := Aside0.mk hr0
  have HC0 := Aside0.mk hc0
  clear hr0 hc0
  have HR1 := Aside0.mk hr1
  have HC1 := Aside0.mk hc1
  clear hr1 hc1
  have HR2 := Aside0.mk hr2
  have HC2 := Aside0.mk hc2
  clear hr2 hc2
  have HB := Aside0.mk (Below.refl w.heap.size w)
  have H : (if (l0.length : Int) > 1100 then (oriellaw03_PackSets.j0 k l0 l1 l2 a3 true) else (if (l1.length : Int) > 1100 then (oriellaw03_PackSets.j0 k l0 l1 l2 a3 true) else (oriellaw03_PackSets.j0 k l0 l1 l2 a3 (decide ((l2.length : Int) > 100))))) = some r := h
  clear h
  have HC5 := Aside0.mk H
  clear H
  go_enter Tryd.func7, Tryd.ntmps7
  go_upto_region 1 with (fail)
  repeat (go_quiet (fail); go_upto_region 1 with (fail))
  go_cut [33] (fun v33 wc => ∃ (kq : Nat) (x33_4 : Bool), v33 = .bool x33_4 ∧ Aside0 (oriellaw03_PackSets.j0 kq l0 l1 l2 a3 x33_4 = some r) ∧ Aside0 (kq ≤ k) ∧ Aside0 (Below w.heap.size w wc))
  case first =>
    have H := HC5.out
    clear HC5
    by_cases c6 : (l0.length : Int) > 1100
    · rw [if_pos c6] at H
      have c6b0 : decide (1100 < (l0.length : Int)) = true := decide_eq_true c6
      have c6b1 : decide (1100 < l0.length) = true := decide_eq_true (by omega)
      clear c6
      (first | rw [c6b0] | (simp only [i64_w, i32_w]; rw [c6b0]) | skip)
      have H' := Aside0.mk H
      clear H
      go_wp2
      repeat (go_quiet (fail); try go_wp2)
      go_meet
      case rel => exact ⟨_, (true), (by first | rfl | (simp; done) | (simp [*]; done)), H', ⟨by first | omega | exact Nat.le_refl _⟩, ⟨by repeat (first | (with_reducible first | exact HB.out | apply below_alloc | apply pw_below_drewN | apply below_drew1) | exact HB.out)⟩⟩
    · rw [if_neg c6] at H
      have c6b0 : decide (1100 < (l0.length : Int)) = false := decide_eq_false c6
      have c6b1 : decide (1100 < l0.length) = false := decide_eq_false (by omega)
      clear c6
      (first | rw [c6b0] | (simp only [i64_w, i32_w]; rw [c6b0]) | skip)
      by_cases c7 : (l1.length : Int) > 1100
      · rw [if_pos c7] at H
        have c7b0 : decide (1100 < (l1.length : Int)) = true := decide_eq_true c7
        have c7b1 : decide (1100 < l1.length) = true := decide_eq_true (by omega)
        clear c7
        have H' := Aside0.mk H
        clear H
        go_wp2
        repeat (go_quiet (fail); try go_wp2)
        go_meet
        case rel => exact ⟨_, (true), (by first | rfl | (simp; done) | (simp [*]; done)), H', ⟨by first | omega | exact Nat.le_refl _⟩, ⟨by repeat (first | (with_reducible first | exact HB.out | apply below_alloc | apply pw_below_drewN | apply below_drew1) | exact HB.out)⟩⟩
      · rw [if_neg c7] at H
        have c7b0 : decide (1100 < (l1.length : Int)) = false := decide_eq_false c7
        have c7b1 : decide (1100 < l1.length) = false := decide_eq_false (by omega)
        clear c7
        have H' := Aside0.mk H
        clear H
        go_wp2
        repeat (go_quiet (fail); try go_wp2)
        go_meet
        case rel => exact ⟨_, (decide ((l2.length : Int) > 100)), (by first | rfl | (simp; done) | (simp [*]; done)), H', ⟨by first | omega | exact Nat.le_refl _⟩, ⟨by repeat (first | (with_reducible first | exact HB.out | apply below_alloc | apply pw_below_drewN | apply below_drew1) | exact HB.out)⟩⟩
  case rest =>
    clear HC5
    try clear c1
    try clear c2
    try clear p2
    try clear c6
    try clear c6b0
    try clear c6b1
    try clear c7
    try clear c7b0
    try clear c7b1
    obtain ⟨kq, x33_4, rfl, HA, HJ4, HB⟩ := hcut
    cases kq with
    | zero => exact absurd HA.out (by simp [oriellaw03_PackSets.j0])
    | succ kj4 =>
      have H := HA.out
      clear HA
      simp only [oriellaw03_PackSets.j0] at H
      by_cases c8 : x33_4 = true
      · subst c8
        have H1 : ((oriellaw03_alive.f kj4).bind fun t438 => (some t438)) = some r := by rw [if_pos rfl] at H; exact H
        clear H
        have H := H1
        clear H1
        replace H := Option.bind_eq_some_iff.mp H
        obtain ⟨t438, A90, H⟩ := H
        replace H : (some t438) = some r := H
        have A9 := Aside0.mk A90
        clear A90
        obtain rfl := Option.some.inj H
        go_wp2_with (first | (go_at_call 12; (with_reducible refine (oriellaw03_alive.calls kj4  t438 _ ?sideT A9.out).mono ?_); (case sideT => first | exact HT.out | exact TabW.below HT.out (by repeat (first | (with_reducible first | exact HB.out | apply below_alloc | apply pw_below_drewN | apply below_drew1) | exact HB.out))); rintro e w10 ⟨rfl, hb⟩; have n0_ := Aside0.mk (below_step (by repeat (first | (with_reducible first | exact HB.out | apply below_alloc | apply pw_below_drewN | apply below_drew1) | exact HB.out)) hb); clear HB; have HB := n0_; clear n0_; (try clear hb); (try clear hb2); (try clear hk); (try clear hi)))
        repeat (go_quiet (first | (go_at_call 12; (with_reducible refine (oriellaw03_alive.calls kj4  t438 _ ?sideT A9.out).mono ?_); (case sideT => first | exact HT.out | exact TabW.below HT.out (by repeat (first | (with_reducible first | exact HB.out | apply below_alloc | apply pw_below_drewN | apply below_drew1) | exact HB.out))); rintro e w10 ⟨rfl, hb⟩; have n0_ := Aside0.mk (below_step (by repeat (first | (with_reducible first | exact HB.out | apply below_alloc | apply pw_below_drewN | apply below_drew1) | exact HB.out)) hb); clear HB; have HB := n0_; clear n0_; (try clear hb); (try clear hb2); (try clear hk); (try clear hi))); try go_wp2_with (first | (go_at_call 12; (with_reducible refine (oriellaw03_alive.calls kj4  t438 _ ?sideT A9.out).mono ?_); (case sideT => first | exact HT.out | exact TabW.below HT.out (by repeat (first | (with_reducible first | exact HB.out | apply below_alloc | apply pw_below_drewN | apply below_drew1) | exact HB.out))); rintro e w10 ⟨rfl, hb⟩; have n0_ := Aside0.mk (below_step (by repeat (first | (with_reducible first | exact HB.out | apply below_alloc | apply pw_below_drewN | apply below_drew1) | exact HB.out)) hb); clear HB; have HB := n0_; clear n0_; (try clear hb); (try clear hb2); (try clear hk); (try clear hi))))
        go_ret
        exact ⟨by first | rfl | (simp [errW_none, errW_some] <;> rfl) | (simp [*, errW_none, errW_some] <;> rfl), by repeat (first | (with_reducible first | exact HB.out | apply below_alloc | apply pw_below_drewN | apply below_drew1) | exact HB.out)⟩
      · replace c8 := Bool.eq_false_iff.mpr c8
        subst c8
        have H1 : ((orielref03_List.f kj4 l0).bind fun t439 => ((orielref03_List.f kj4 l1).bind fun t442 => ((some (([] : List Int) : List Int)).bind fun y445 => (if y445.length + l0.length < 17592186044416 then (oriellaw03_PackSets.l0 kj4 l0 l2 a3 t439 t442 (y445 ++ l0) l0 l1 ([] : List Int) t439 (t439.length : Int) 0) else (none))))) = some r := by rw [if_neg (show ¬ (false = true) by decide)] at H; exact H
        clear H
        have H := H1
        clear H1
        replace H := Option.bind_eq_some_iff.mp H
        obtain ⟨t439, A110, H⟩ := H
        replace H : ((orielref03_List.f kj4 l1).bind fun t442 => ((some (([] : List Int) : List Int)).bind fun y445 => (if y445.length + l0.length < 17592186044416 then (oriellaw03_PackSets.l0 kj4 l0 l2 a3 t439 t442 (y445 ++ l0) l0 l1 ([] : List Int) t439 (t439.length : Int) 0) else (none)))) = some r := H
        have A11 := Aside0.mk A110
        clear A110
        replace H := Option.bind_eq_some_iff.mp H
        obtain ⟨t442, A120, H⟩ := H
        replace H : ((some (([] : List Int) : List Int)).bind fun y445 => (if y445.length + l0.length < 17592186044416 then (oriellaw03_PackSets.l0 kj4 l0 l2 a3 t439 t442 (y445 ++ l0) l0 l1 ([] : List Int) t439 (t439.length : Int) 0) else (none))) = some r := H
        have A12 := Aside0.mk A120
        clear A120
        obtain ⟨y445, hy445⟩ : ∃ y_ : List Int, y_ = (([] : List Int)) := ⟨_, rfl⟩
        replace H : (if y445.length + l0.length < 17592186044416 then (oriellaw03_PackSets.l0 kj4 l0 l2 a3 t439 t442 (y445 ++ l0) l0 l1 ([] : List Int) t439 (t439.length : Int) 0) else (none)) = some r := by first | (rw [hy445]; with_reducible exact H) | (have H2_ := (Option.bind_some _ _).symm.trans H; rw [hy445]; with_reducible exact H2_) | (have H2_ := (Option.bind_some _ _).symm.trans H; with_reducible exact H2_) | with_reducible exact H | (rw [hy445]; exact H) | exact H
        have Ny445 := Aside0.mk hy445
        clear hy445
        by_cases c13 : y445.length + l0.length < 17592186044416
        · rw [if_pos c13] at H
          have LMc13 := Aside0.mk c13
          clear c13
          obtain ⟨y448, hy448⟩ : ∃ y_ : List Int, y_ = (y445 ++ l0) := ⟨_, rfl⟩
          replace H : (oriellaw03_PackSets.l0 kj4 l0 l2 a3 t439 t442 y448 l0 l1 ([] : List Int) t439 (t439.length : Int) 0) = some r := by first | (rw [hy448]; with_reducible exact H) | (have H2_ := (Option.bind_some _ _).symm.trans H; rw [hy448]; with_reducible exact H2_) | (have H2_ := (Option.bind_some _ _).symm.trans H; with_reducible exact H2_) | with_reducible exact H | (rw [hy448]; exact H) | exact H
          have Ny448 := Aside0.mk hy448
          clear hy448
          have H' := Aside0.mk H
          clear H
          go_wp2_with (first | (go_at_call 27; (with_reducible refine (orielref03_List.calls kj4 _ _ l0 t439 _ ?side1 ?side2 A11.out).mono ?_); (case side1 => repeat (first | exact (Kd.C_below HR0.out HB.out) | (with_reducible refine Kd.C_alloc ?_ _) | (with_reducible refine Kd.C_drewN ?_ _) | (with_reducible refine Kd.C_drew ?_))); (case side2 => exact HC0.out); rintro e w14 ⟨v440, rfl, ho0, hb⟩; have n0_ := Aside0.mk (Kd.R_lower ho0 (below_size (by repeat (first | (with_reducible first | exact HB.out | apply below_alloc | apply pw_below_drewN | apply below_drew1) | exact HB.out)))); have n1_ := Aside0.mk (below_step (by repeat (first | (with_reducible first | exact HB.out | apply below_alloc | apply pw_below_drewN | apply below_drew1) | exact HB.out)) hb); clear HB; have HO441 := n0_; have HB := n1_; clear n0_ n1_; (try clear hb); (try clear hb2); (try clear hk); (try clear hi); (try clear ho0)) | (go_at_call 27; (with_reducible refine (orielref03_List.calls kj4 _ _ l1 t442 _ ?side1 ?side2 A12.out).mono ?_); (case side1 => repeat (first | exact (Kd.C_below HR1.out HB.out) | (with_reducible refine Kd.C_alloc ?_ _) | (with_reducible refine Kd.C_drewN ?_ _) | (with_reducible refine Kd.C_drew ?_))); (case side2 => exact HC1.out); rintro e w15 ⟨v443, rfl, ho0, hb⟩; have n0_ := Aside0.mk (Kd.R_elder' (by (with_reducible repeat (first | apply Kd.R_alloc | apply Kd.R_drewN | apply Kd.R_drew)); exact HO441.out) (Kd.R_base ho0) hb); have n1_ := Aside0.mk (Kd.R_lower (Kd.R_new' ho0 (Kd.R_lt (by (with_reducible repeat (first | apply Kd.R_alloc | apply Kd.R_drewN | apply Kd.R_drew)); exact HO441.out))) (below_size (by repeat (first | (with_reducible first | exact HB.out | apply below_alloc | apply pw_below_drewN | apply below_drew1) | exact HB.out)))); have n2_ := Aside0.mk (below_step (by repeat (first | (with_reducible first | exact HB.out | apply below_alloc | apply pw_below_drewN | apply below_drew1) | exact HB.out)) hb); clear HO441; clear HB; have HO441 := n0_; have HO444 := n1_; have HB := n2_; clear n0_ n1_ n2_; (try clear hb); (try clear hb2); (try clear hk); (try clear hi); (try clear ho0)) | ((with_reducible refine gate_dst (N := 39) rfl ?_); (try (refine gate_guard (by rfl) ?_; dsimp only)); refine Kd.R_lit (Kd.int .u64) _ 23 ?hg (N := 39) ?hd (xs := ([] : List Int)) (inner := []) (ok := fun _ => True) (okp := fun _ => True) ?hr ?hp (fun _ hk => hk) trivial (Below.refl _ _) (Nat.le_refl _) (by simp) ?_; (case hd => rfl); (case hg => rfl); (case hr => first | (go_simp; done) | (go_simp; rfl)); (case hp => exact (Reps.none _ _)); intro v446 w16 ho17 hb hg_ hnew_; clear hg_ hnew_; (first | rw [← Ny445.out] at ho17 | (simp only [Int.reduceToNat] at ho17; rw [← Ny445.out] at ho17)); have n0_ := Aside0.mk (Kd.R_below (by (with_reducible repeat (first | apply Kd.R_alloc | apply Kd.R_drewN | apply Kd.R_drew)); exact HO441.out) hb); have n1_ := Aside0.mk (Kd.R_below (by (with_reducible repeat (first | apply Kd.R_alloc | apply Kd.R_drewN | apply Kd.R_drew)); exact HO444.out) hb); have n2_ := Aside0.mk (Kd.R_lower ho17 (below_size (by repeat (first | (with_reducible first | exact HB.out | apply below_alloc | apply pw_below_drewN | apply below_drew1) | exact HB.out)))); have n3_ := Aside0.mk (below_step (by repeat (first | (with_reducible first | exact HB.out | apply below_alloc | apply pw_below_drewN | apply below_drew1) | exact HB.out)) hb); clear HO441; clear HO444; clear HB; have HO441 := n0_; have HO444 := n1_; have HO447 := n2_; have HB := n3_; clear n0_ n1_ n2_ n3_; clear hb ho17) | ((with_reducible refine gate_builtin (b := .append) (xs := #[.tmp 39, .tmp 40]) rfl ?_); (try (refine gate_guard (by rfl) ?_; dsimp only)); at_builtin; refine Kd.R_append_rows (Kd.int .u64) (w0 := w) w.heap.size rfl (.tmp 39) (.tmp 40) 45 23 (.int .u64 0) 8 rfl Tryd.underlying45 info23 rfl (by decide) (by omega) v446 y445 l0 _ _ _ (fun _ => True) (fun _ => False) rfl rfl ?aO ?aR (fun _ _ h => h) (fun _ h => h.elim) ?aF ?aB ?aS ?aL ?_; (case aR => repeat (first | exact (Kd.C_below HR0.out HB.out) | (with_reducible refine Kd.C_alloc ?_ _) | (with_reducible refine Kd.C_drewN ?_ _) | (with_reducible refine Kd.C_drew ?_))); (case aB => exact (by repeat (first | (with_reducible first | exact HB.out | apply below_alloc | apply pw_below_drewN | apply below_drew1) | exact HB.out))); (case aF => exact (fun _ _ => trivial)); (case aO => exact (by (with_reducible repeat (first | apply Kd.R_alloc | apply Kd.R_drewN | apply Kd.R_drew)); exact HO447.out)); (case aS => exact (below_size (by repeat (first | (with_reducible first | exact HB.out | apply below_alloc | apply pw_below_drewN | apply below_drew1) | exact HB.out)))); (case aL => have := LMc13.out; omega); intro v449 w18 ho hb hg hat; rw [← Ny448.out] at ho; have n0_ := Aside0.mk (Kd.R_over' (by (with_reducible repeat (first | apply Kd.R_alloc | apply Kd.R_drewN | apply Kd.R_drew)); exact HO441.out) (Kd.R_typed (by (with_reducible repeat (first | apply Kd.R_alloc | apply Kd.R_drewN | apply Kd.R_drew)); exact HO447.out)) (by decide) hg); have n1_ := Aside0.mk (Kd.R_over' (by (with_reducible repeat (first | apply Kd.R_alloc | apply Kd.R_drewN | apply Kd.R_drew)); exact HO444.out) (Kd.R_typed (by (with_reducible repeat (first | apply Kd.R_alloc | apply Kd.R_drewN | apply Kd.R_drew)); exact HO447.out)) (by decide) hg); have n2_ := Aside0.mk (hb); have n3_ := Aside0.mk (ho); clear HO441; clear HO444; clear HB; clear HO447; have HO441 := n0_; have HO444 := n1_; have HB := n2_; have HO450 := n3_; clear n0_ n1_ n2_ n3_; clear ho hb hg hat; obtain ⟨Ao19, co19, eo19⟩ := Kd.R_slice HO441.out; subst eo19))
          repeat (go_quiet (first | (go_at_call 27; (with_reducible refine (orielref03_List.calls kj4 _ _ l0 t439 _ ?side1 ?side2 A11.out).mono ?_); (case side1 => repeat (first | exact (Kd.C_below HR0.out HB.out) | (with_reducible refine Kd.C_alloc ?_ _) | (with_reducible refine Kd.C_drewN ?_ _) | (with_reducible refine Kd.C_drew ?_))); (case side2 => exact HC0.out); rintro e w14 ⟨v440, rfl, ho0, hb⟩; have n0_ := Aside0.mk (Kd.R_lower ho0 (below_size (by repeat (first | (with_reducible first | exact HB.out | apply below_alloc | apply pw_below_drewN | apply below_drew1) | exact HB.out)))); have n1_ := Aside0.mk (below_step (by repeat (first | (with_reducible first | exact HB.out | apply below_alloc | apply pw_below_drewN | apply below_drew1) | exact HB.out)) hb); clear HB; have HO441 := n0_; have HB := n1_; clear n0_ n1_; (try clear hb); (try clear hb2); (try clear hk); (try clear hi); (try clear ho0)) | (go_at_call 27; (with_reducible refine (orielref03_List.calls kj4 _ _ l1 t442 _ ?side1 ?side2 A12.out).mono ?_); (case side1 => repeat (first | exact (Kd.C_below HR1.out HB.out) | (with_reducible refine Kd.C_alloc ?_ _) | (with_reducible refine Kd.C_drewN ?_ _) | (with_reducible refine Kd.C_drew ?_))); (case side2 => exact HC1.out); rintro e w15 ⟨v443, rfl, ho0, hb⟩; have n0_ := Aside0.mk (Kd.R_elder' (by (with_reducible repeat (first | apply Kd.R_alloc | apply Kd.R_drewN | apply Kd.R_drew)); exact HO441.out) (Kd.R_base ho0) hb); have n1_ := Aside0.mk (Kd.R_lower (Kd.R_new' ho0 (Kd.R_lt (by (with_reducible repeat (first | apply Kd.R_alloc | apply Kd.R_drewN | apply Kd.R_drew)); exact HO441.out))) (below_size (by repeat (first | (with_reducible first | exact HB.out | apply below_alloc | apply pw_below_drewN | apply below_drew1) | exact HB.out)))); have n2_ := Aside0.mk (below_step (by repeat (first | (with_reducible first | exact HB.out | apply below_alloc | apply pw_below_drewN | apply below_drew1) | exact HB.out)) hb); clear HO441; clear HB; have HO441 := n0_; have HO444 := n1_; have HB := n2_; clear n0_ n1_ n2_; (try clear hb); (try clear hb2); (try clear hk); (try clear hi); (try clear ho0)) | ((with_reducible refine gate_dst (N := 39) rfl ?_); (try (refine gate_guard (by rfl) ?_; dsimp only)); refine Kd.R_lit (Kd.int .u64) _ 23 ?hg (N := 39) ?hd (xs := ([] : List Int)) (inner := []) (ok := fun _ => True) (okp := fun _ => True) ?hr ?hp (fun _ hk => hk) trivial (Below.refl _ _) (Nat.le_refl _) (by simp) ?_; (case hd => rfl); (case hg => rfl); (case hr => first | (go_simp; done) | (go_simp; rfl)); (case hp => exact (Reps.none _ _)); intro v446 w16 ho17 hb hg_ hnew_; clear hg_ hnew_; (first | rw [← Ny445.out] at ho17 | (simp only [Int.reduceToNat] at ho17; rw [← Ny445.out] at ho17)); have n0_ := Aside0.mk (Kd.R_below (by (with_reducible repeat (first | apply Kd.R_alloc | apply Kd.R_drewN | apply Kd.R_drew)); exact HO441.out) hb); have n1_ := Aside0.mk (Kd.R_below (by (with_reducible repeat (first | apply Kd.R_alloc | apply Kd.R_drewN | apply Kd.R_drew)); exact HO444.out) hb); have n2_ := Aside0.mk (Kd.R_lower ho17 (below_size (by repeat (first | (with_reducible first | exact HB.out | apply below_alloc | apply pw_below_drewN | apply below_drew1) | exact HB.out)))); have n3_ := Aside0.mk (below_step (by repeat (first | (with_reducible first | exact HB.out | apply below_alloc | apply pw_below_drewN | apply below_drew1) | exact HB.out)) hb); clear HO441; clear HO444; clear HB; have HO441 := n0_; have HO444 := n1_; have HO447 := n2_; have HB := n3_; clear n0_ n1_ n2_ n3_; clear hb ho17) | ((with_reducible refine gate_builtin (b := .append) (xs := #[.tmp 39, .tmp 40]) rfl ?_); (try (refine gate_guard (by rfl) ?_; dsimp only)); at_builtin; refine Kd.R_append_rows (Kd.int .u64) (w0 := w) w.heap.size rfl (.tmp 39) (.tmp 40) 45 23 (.int .u64 0) 8 rfl Tryd.underlying45 info23 rfl (by decide) (by omega) v446 y445 l0 _ _ _ (fun _ => True) (fun _ => False) rfl rfl ?aO ?aR (fun _ _ h => h) (fun _ h => h.elim) ?aF ?aB ?aS ?aL ?_; (case aR => repeat (first | exact (Kd.C_below HR0.out HB.out) | (with_reducible refine Kd.C_alloc ?_ _) | (with_reducible refine Kd.C_drewN ?_ _) | (with_reducible refine Kd.C_drew ?_))); (case aB => exact (by repeat (first | (with_reducible first | exact HB.out | apply below_alloc | apply pw_below_drewN | apply below_drew1) | exact HB.out))); (case aF => exact (fun _ _ => trivial)); (case aO => exact (by (with_reducible repeat (first | apply Kd.R_alloc | apply Kd.R_drewN | apply Kd.R_drew)); exact HO447.out)); (case aS => exact (below_size (by repeat (first | (with_reducible first | exact HB.out | apply below_alloc | apply pw_below_drewN | apply below_drew1) | exact HB.out)))); (case aL => have := LMc13.out; omega); intro v449 w18 ho hb hg hat; rw [← Ny448.out] at ho; have n0_ := Aside0.mk (Kd.R_over' (by (with_reducible repeat (first | apply Kd.R_alloc | apply Kd.R_drewN | apply Kd.R_drew)); exact HO441.out) (Kd.R_typed (by (with_reducible repeat (first | apply Kd.R_alloc | apply Kd.R_drewN | apply Kd.R_drew)); exact HO447.out)) (by decide) hg); have n1_ := Aside0.mk (Kd.R_over' (by (with_reducible repeat (first | apply Kd.R_alloc | apply Kd.R_drewN | apply Kd.R_drew)); exact HO444.out) (Kd.R_typed (by (with_reducible repeat (first | apply Kd.R_alloc | apply Kd.R_drewN | apply Kd.R_drew)); exact HO447.out)) (by decide) hg); have n2_ := Aside0.mk (hb); have n3_ := Aside0.mk (ho); clear HO441; clear HO444; clear HB; clear HO447; have HO441 := n0_; have HO444 := n1_; have HB := n2_; have HO450 := n3_; clear n0_ n1_ n2_ n3_; clear ho hb hg hat; obtain ⟨Ao19, co19, eo19⟩ := Kd.R_slice HO441.out; subst eo19)); try go_wp2_with (first | (go_at_call 27; (with_reducible refine (orielref03_List.calls kj4 _ _ l0 t439 _ ?side1 ?side2 A11.out).mono ?_); (case side1 => repeat (first | exact (Kd.C_below HR0.out HB.out) | (with_reducible refine Kd.C_alloc ?_ _) | (with_reducible refine Kd.C_drewN ?_ _) | (with_reducible refine Kd.C_drew ?_))); (case side2 => exact HC0.out); rintro e w14 ⟨v440, rfl, ho0, hb⟩; have n0_ := Aside0.mk (Kd.R_lower ho0 (below_size (by repeat (first | (with_reducible first | exact HB.out | apply below_alloc | apply pw_below_drewN | apply below_drew1) | exact HB.out)))); have n1_ := Aside0.mk (below_step (by repeat (first | (with_reducible first | exact HB.out | apply below_alloc | apply pw_below_drewN | apply below_drew1) | exact HB.out)) hb); clear HB; have HO441 := n0_; have HB := n1_; clear n0_ n1_; (try clear hb); (try clear hb2); (try clear hk); (try clear hi); (try clear ho0)) | (go_at_call 27; (with_reducible refine (orielref03_List.calls kj4 _ _ l1 t442 _ ?side1 ?side2 A12.out).mono ?_); (case side1 => repeat (first | exact (Kd.C_below HR1.out HB.out) | (with_reducible refine Kd.C_alloc ?_ _) | (with_reducible refine Kd.C_drewN ?_ _) | (with_reducible refine Kd.C_drew ?_))); (case side2 => exact HC1.out); rintro e w15 ⟨v443, rfl, ho0, hb⟩; have n0_ := Aside0.mk (Kd.R_elder' (by (with_reducible repeat (first | apply Kd.R_alloc | apply Kd.R_drewN | apply Kd.R_drew)); exact HO441.out) (Kd.R_base ho0) hb); have n1_ := Aside0.mk (Kd.R_lower (Kd.R_new' ho0 (Kd.R_lt (by (with_reducible repeat (first | apply Kd.R_alloc | apply Kd.R_drewN | apply Kd.R_drew)); exact HO441.out))) (below_size (by repeat (first | (with_reducible first | exact HB.out | apply below_alloc | apply pw_below_drewN | apply below_drew1) | exact HB.out)))); have n2_ := Aside0.mk (below_step (by repeat (first | (with_reducible first | exact HB.out | apply below_alloc | apply pw_below_drewN | apply below_drew1) | exact HB.out)) hb); clear HO441; clear HB; have HO441 := n0_; have HO444 := n1_; have HB := n2_; clear n0_ n1_ n2_; (try clear hb); (try clear hb2); (try clear hk); (try clear hi); (try clear ho0)) | ((with_reducible refine gate_dst (N := 39) rfl ?_); (try (refine gate_guard (by rfl) ?_; dsimp only)); refine Kd.R_lit (Kd.int .u64) _ 23 ?hg (N := 39) ?hd (xs := ([] : List Int)) (inner := []) (ok := fun _ => True) (okp := fun _ => True) ?hr ?hp (fun _ hk => hk) trivial (Below.refl _ _) (Nat.le_refl _) (by simp) ?_; (case hd => rfl); (case hg => rfl); (case hr => first | (go_simp; done) | (go_simp; rfl)); (case hp => exact (Reps.none _ _)); intro v446 w16 ho17 hb hg_ hnew_; clear hg_ hnew_; (first | rw [← Ny445.out] at ho17 | (simp only [Int.reduceToNat] at ho17; rw [← Ny445.out] at ho17)); have n0_ := Aside0.mk (Kd.R_below (by (with_reducible repeat (first | apply Kd.R_alloc | apply Kd.R_drewN | apply Kd.R_drew)); exact HO441.out) hb); have n1_ := Aside0.mk (Kd.R_below (by (with_reducible repeat (first | apply Kd.R_alloc | apply Kd.R_drewN | apply Kd.R_drew)); exact HO444.out) hb); have n2_ := Aside0.mk (Kd.R_lower ho17 (below_size (by repeat (first | (with_reducible first | exact HB.out | apply below_alloc | apply pw_below_drewN | apply below_drew1) | exact HB.out)))); have n3_ := Aside0.mk (below_step (by repeat (first | (with_reducible first | exact HB.out | apply below_alloc | apply pw_below_drewN | apply below_drew1) | exact HB.out)) hb); clear HO441; clear HO444; clear HB; have HO441 := n0_; have HO444 := n1_; have HO447 := n2_; have HB := n3_; clear n0_ n1_ n2_ n3_; clear hb ho17) | ((with_reducible refine gate_builtin (b := .append) (xs := #[.tmp 39, .tmp 40]) rfl ?_); (try (refine gate_guard (by rfl) ?_; dsimp only)); at_builtin; refine Kd.R_append_rows (Kd.int .u64) (w0 := w) w.heap.size rfl (.tmp 39) (.tmp 40) 45 23 (.int .u64 0) 8 rfl Tryd.underlying45 info23 rfl (by decide) (by omega) v446 y445 l0 _ _ _ (fun _ => True) (fun _ => False) rfl rfl ?aO ?aR (fun _ _ h => h) (fun _ h => h.elim) ?aF ?aB ?aS ?aL ?_; (case aR => repeat (first | exact (Kd.C_below HR0.out HB.out) | (with_reducible refine Kd.C_alloc ?_ _) | (with_reducible refine Kd.C_drewN ?_ _) | (with_reducible refine Kd.C_drew ?_))); (case aB => exact (by repeat (first | (with_reducible first | exact HB.out | apply below_alloc | apply pw_below_drewN | apply below_drew1) | exact HB.out))); (case aF => exact (fun _ _ => trivial)); (case aO => exact (by (with_reducible repeat (first | apply Kd.R_alloc | apply Kd.R_drewN | apply Kd.R_drew)); exact HO447.out)); (case aS => exact (below_size (by repeat (first | (with_reducible first | exact HB.out | apply below_alloc | apply pw_below_drewN | apply below_drew1) | exact HB.out)))); (case aL => have := LMc13.out; omega); intro v449 w18 ho hb hg hat; rw [← Ny448.out] at ho; have n0_ := Aside0.mk (Kd.R_over' (by (with_reducible repeat (first | apply Kd.R_alloc | apply Kd.R_drewN | apply Kd.R_drew)); exact HO441.out) (Kd.R_typed (by (with_reducible repeat (first | apply Kd.R_alloc | apply Kd.R_drewN | apply Kd.R_drew)); exact HO447.out)) (by decide) hg); have n1_ := Aside0.mk (Kd.R_over' (by (with_reducible repeat (first | apply Kd.R_alloc | apply Kd.R_drewN | apply Kd.R_drew)); exact HO444.out) (Kd.R_typed (by (with_reducible repeat (first | apply Kd.R_alloc | apply Kd.R_drewN | apply Kd.R_drew)); exact HO447.out)) (by decide) hg); have n2_ := Aside0.mk (hb); have n3_ := Aside0.mk (ho); clear HO441; clear HO444; clear HB; clear HO447; have HO441 := n0_; have HO444 := n1_; have HB := n2_; have HO450 := n3_; clear n0_ n1_ n2_ n3_; clear ho hb hg hat; obtain ⟨Ao19, co19, eo19⟩ := Kd.R_slice HO441.out; subst eo19)))
          go_loopg [14, 46] kj4 (fun kq v14 v46 w' => ∃ (x14_2 : List Int) (x46_2 : Int), v46 = .int .i64 x46_2 ∧ Aside0 (oriellaw03_PackSets.l0 kq l0 l2 a3 t439 t442 y448 l0 l1 x14_2 t439 (t439.length : Int) x46_2 = some r) ∧ Aside0 (kq ≤ kj4) ∧ Aside0 (Kd.R (Kd.int .i64) 3 w' w.heap.size (fun k_ => some k_ ≠ (v443 : Value).ownBlock ∧ some k_ ≠ (v14 : Value).ownBlock) (.slice Ao19 t439.length co19) t439) ∧ Aside0 (Kd.R (Kd.int .i64) 3 w' w.heap.size (fun k_ => some k_ ≠ ((.slice Ao19 t439.length co19) : Value).ownBlock ∧ some k_ ≠ (v14 : Value).ownBlock ∧ some k_ ≠ ((.slice Ao19 t439.length co19) : Value).ownBlock) v443 t442) ∧ Aside0 (Kd.R (Kd.int .u64) 23 w' w.heap.size (fun _ => True) v449 y448) ∧ Aside0 (Kd.R (Kd.int .i64) 3 w' w.heap.size (fun k_ => some k_ ≠ ((.slice Ao19 t439.length co19) : Value).ownBlock ∧ some k_ ≠ (v443 : Value).ownBlock ∧ some k_ ≠ ((.slice Ao19 t439.length co19) : Value).ownBlock) v14 x14_2) ∧ Aside0 (Kd.R (Kd.int .i64) 3 w' w.heap.size (fun k_ => some k_ ≠ (v443 : Value).ownBlock ∧ some k_ ≠ (v14 : Value).ownBlock) (.slice Ao19 t439.length co19) t439) ∧ Aside0 (Below w.heap.size w w'))
          case atStart => exact ⟨(([] : List Int)), (0), (by first | rfl | (simp; done) | (simp [*]; done)), H', ⟨Nat.le_refl _⟩, ⟨by (with_reducible repeat (first | apply Kd.R_alloc | apply Kd.R_drewN | apply Kd.R_drew)); exact Kd.R_mono HO441.out (fun _ hk => ⟨hk.2, (by simp [Value.ownBlock])⟩)⟩, ⟨by (with_reducible repeat (first | apply Kd.R_alloc | apply Kd.R_drewN | apply Kd.R_drew)); exact Kd.R_mono HO444.out (fun _ hk => ⟨hk.2, ⟨(by simp [Value.ownBlock]), hk.2⟩⟩)⟩, ⟨by (with_reducible repeat (first | apply Kd.R_alloc | apply Kd.R_drewN | apply Kd.R_drew)); exact HO450.out⟩, ⟨by first | exact Kd.R_nil _ _ _ _ _ | exact Kd.N_nil _ _ _ _ _ | exact Kd.V_nil _ _ _ _ _ | exact Kd.Q_nil _ _ _ _ _ | exact Kd.S_nil _ _ _ _ _⟩, ⟨by (with_reducible repeat (first | apply Kd.R_alloc | apply Kd.R_drewN | apply Kd.R_drew)); exact Kd.R_mono HO441.out (fun _ hk => ⟨hk.2, (by simp [Value.ownBlock])⟩)⟩, ⟨by repeat (first | (with_reducible first | exact HB.out | apply below_alloc | apply pw_below_drewN | apply below_drew1) | exact HB.out)⟩⟩
          case round =>
            clear H'
            try clear c1
            try clear c2
            try clear p2
            try clear c6
            try clear c6b0
            try clear c6b1
            try clear c7
            try clear c7b0
            try clear c7b1
            try clear c8
            try clear c13
            try clear p2
            obtain ⟨x14_2, x46_2, rfl, HA, HK2, HO_9, HO_10, HO_11, HO_14, HO_44, HB⟩ := hrel
            cases gk with
            | zero => exact absurd HA.out (by simp [oriellaw03_PackSets.l0])
            | succ k2 =>
              have H := HA.out
              clear HA
              simp only [oriellaw03_PackSets.l0] at H
              by_cases c20 : x46_2 < (t439.length : Int)
              · rw [if_pos c20] at H
                have c20b0 : decide (x46_2 < (t439.length : Int)) = true := decide_eq_true c20
                clear c20
                by_cases c21 : 0 ≤ x46_2
                · rw [if_pos c21] at H
                  have c21b0 : decide (0 ≤ x46_2) = true := decide_eq_true c21
                  clear c21
                  by_cases c22 : x46_2 < (t439.length : Int)
                  · rw [if_pos c22] at H
                    have c22b0 : decide (x46_2 < (t439.length : Int)) = true := decide_eq_true c22
                    clear c22
                    replace H := Option.bind_eq_some_iff.mp H
                    obtain ⟨t452, A230, H⟩ := H
                    replace H : (if t452 = true then (oriellaw03_PackSets.l0 k2 l0 l2 a3 t439 t442 y448 l0 l1 x14_2 t439 (t439.length : Int) (wrap64 (x46_2 + 1))) else (if x14_2.length < 17592186044416 then (oriellaw03_PackSets.l0 k2 l0 l2 a3 t439 t442 y448 l0 l1 (x14_2 ++ [rd t439 x46_2]) t439 (t439.length : Int) (wrap64 (x46_2 + 1))) else (none))) = some r := H
                    have A23 := Aside0.mk A230
                    clear A230
                    by_cases c24 : t452 = true
                    · subst c24
                      have H1 : (oriellaw03_PackSets.l0 k2 l0 l2 a3 t439 t442 y448 l0 l1 x14_2 t439 (t439.length : Int) (wrap64 (x46_2 + 1))) = some r := by rw [if_pos rfl] at H; exact H
                      clear H
                      have H := H1
                      clear H1
                      have H' := Aside0.mk H
                      clear H
                      have p451 : 0 ≤ (x46_2 : Int) := of_decide_eq_true (by first | (with_reducible assumption) | assumption)
                      have q451 : x46_2 < (t439.length : Int) := of_decide_eq_true (by first | (with_reducible assumption) | assumption)
                      obtain ⟨ad451, e451, hx451_0⟩ := Kd.at_int (Kd.R_reads' HO_44.out).2.2 x46_2 p451 q451
                      cases e451
                      replace p451 := eq_true p451
                      replace q451 := eq_true q451
                      obtain ⟨Ao25, co25, eo25⟩ := Kd.R_slice HO_10.out
                      subst eo25
                      go_wp2_with (first | (go_at_call 28; (with_reducible refine (orielref03_In.calls k2 _ _ t442 (rd t439 x46_2) true _ ?side1 ?side2 A23.out).mono ?_); (case side1 => repeat (first | exact (Kd.R_reads' HO_10.out).2.2 | (with_reducible refine Kd.C_alloc ?_ _) | (with_reducible refine Kd.C_drewN ?_ _) | (with_reducible refine Kd.C_drew ?_))); (case side2 => exact (Kd.R_reads' HO_10.out).2.1); rintro e w' ⟨rfl, ⟨nd, rfl⟩⟩; (try first | exact ⟨rfl, _, World.drewN_drewN _ _ _⟩ | exact ⟨rfl, _, Eq.trans (World.drewN_drewN _ _ _) (congrArg (World.drewN _) (Nat.add_assoc _ _ _))⟩)))
                      repeat (go_quiet (first | (go_at_call 28; (with_reducible refine (orielref03_In.calls k2 _ _ t442 (rd t439 x46_2) true _ ?side1 ?side2 A23.out).mono ?_); (case side1 => repeat (first | exact (Kd.R_reads' HO_10.out).2.2 | (with_reducible refine Kd.C_alloc ?_ _) | (with_reducible refine Kd.C_drewN ?_ _) | (with_reducible refine Kd.C_drew ?_))); (case side2 => exact (Kd.R_reads' HO_10.out).2.1); rintro e w' ⟨rfl, ⟨nd, rfl⟩⟩; (try first | exact ⟨rfl, _, World.drewN_drewN _ _ _⟩ | exact ⟨rfl, _, Eq.trans (World.drewN_drewN _ _ _) (congrArg (World.drewN _) (Nat.add_assoc _ _ _))⟩))); try go_wp2_with (first | (go_at_call 28; (with_reducible refine (orielref03_In.calls k2 _ _ t442 (rd t439 x46_2) true _ ?side1 ?side2 A23.out).mono ?_); (case side1 => repeat (first | exact (Kd.R_reads' HO_10.out).2.2 | (with_reducible refine Kd.C_alloc ?_ _) | (with_reducible refine Kd.C_drewN ?_ _) | (with_reducible refine Kd.C_drew ?_))); (case side2 => exact (Kd.R_reads' HO_10.out).2.1); rintro e w' ⟨rfl, ⟨nd, rfl⟩⟩; (try first | exact ⟨rfl, _, World.drewN_drewN _ _ _⟩ | exact ⟨rfl, _, Eq.trans (World.drewN_drewN _ _ _) (congrArg (World.drewN _) (Nat.add_assoc _ _ _))⟩))))
                      go_roundg k2
                      case measure => have := HJ4.out; have := HK2.out; omega
                      case rel => exact ⟨(x14_2), (wrap64 (x46_2 + 1)), (by first | rfl | (simp; done) | (simp [*]; done)), H', ⟨by have := HJ4.out; have := HK2.out; omega⟩, ⟨by (with_reducible repeat (first | apply Kd.R_alloc | apply Kd.R_drewN | apply Kd.R_drew)); exact HO_9.out⟩, ⟨by (with_reducible repeat (first | apply Kd.R_alloc | apply Kd.R_drewN | apply Kd.R_drew)); exact HO_10.out⟩, ⟨by (with_reducible repeat (first | apply Kd.R_alloc | apply Kd.R_drewN | apply Kd.R_drew)); exact HO_11.out⟩, ⟨by (with_reducible repeat (first | apply Kd.R_alloc | apply Kd.R_drewN | apply Kd.R_drew)); exact HO_14.out⟩, ⟨by (with_reducible repeat (first | apply Kd.R_alloc | apply Kd.R_drewN | apply Kd.R_drew)); exact HO_44.out⟩, ⟨by repeat (first | (with_reducible first | exact HB.out | apply below_alloc | apply pw_below_drewN | apply below_drew1) | exact HB.out)⟩⟩
                    · replace c24 := Bool.eq_false_iff.mpr c24
                      subst c24
                      have H1 : (if x14_2.length < 17592186044416 then (oriellaw03_PackSets.l0 k2 l0 l2 a3 t439 t442 y448 l0 l1 (x14_2 ++ [rd t439 x46_2]) t439 (t439.length : Int) (wrap64 (x46_2 + 1))) else (none)) = some r := by rw [if_neg (show ¬ (false = true) by decide)] at H; exact H
                      clear H
                      have H := H1
                      clear H1
                      by_cases c26 : x14_2.length < 17592186044416
                      · rw [if_pos c26] at H
                        have LMc26 := Aside0.mk c26
                        clear c26
                        obtain ⟨y453, hy453⟩ : ∃ y_ : List Int, y_ = (x14_2 ++ [rd t439 x46_2]) := ⟨_, rfl⟩
                        replace H : (oriellaw03_PackSets.l0 k2 l0 l2 a3 t439 t442 y448 l0 l1 y453 t439 (t439.length : Int) (wrap64 (x46_2 + 1))) = some r := by first | (rw [hy453]; with_reducible exact H) | (have H2_ := (Option.bind_some _ _).symm.trans H; rw [hy453]; with_reducible exact H2_) | (have H2_ := (Option.bind_some _ _).symm.trans H; with_reducible exact H2_) | with_reducible exact H | (rw [hy453]; exact H) | exact H
                        have Ny453 := Aside0.mk hy453
                        clear hy453
                        have H' := Aside0.mk H
                        clear H
                        have p451 : 0 ≤ (x46_2 : Int) := of_decide_eq_true (by first | (with_reducible assumption) | assumption)
                        have q451 : x46_2 < (t439.length : Int) := of_decide_eq_true (by first | (with_reducible assumption) | assumption)
                        obtain ⟨ad451, e451, hx451_0⟩ := Kd.at_int (Kd.R_reads' HO_44.out).2.2 x46_2 p451 q451
                        cases e451
                        replace p451 := eq_true p451
                        replace q451 := eq_true q451
                        obtain ⟨Ao27, co27, eo27⟩ := Kd.R_slice HO_10.out
                        subst eo27
                        go_wp2_with (first | (go_at_call 28; (with_reducible refine (orielref03_In.calls k2 _ _ t442 (rd t439 x46_2) false _ ?side1 ?side2 A23.out).mono ?_); (case side1 => repeat (first | exact (Kd.R_reads' HO_10.out).2.2 | (with_reducible refine Kd.C_alloc ?_ _) | (with_reducible refine Kd.C_drewN ?_ _) | (with_reducible refine Kd.C_drew ?_))); (case side2 => exact (Kd.R_reads' HO_10.out).2.1); rintro e w' ⟨rfl, ⟨nd, rfl⟩⟩; (try first | exact ⟨rfl, _, World.drewN_drewN _ _ _⟩ | exact ⟨rfl, _, Eq.trans (World.drewN_drewN _ _ _) (congrArg (World.drewN _) (Nat.add_assoc _ _ _))⟩)) | ((with_reducible refine gate_builtin (b := .append) (xs := #[.tmp 54, .tmp 56]) rfl ?_); (try (refine gate_guard (by rfl) ?_; dsimp only)); at_builtin; refine Kd.R_append (Kd.int .i64) (w0 := w) w.heap.size rfl (.tmp 54) (.tmp 56) 44 3 (.int .i64 0) 8 rfl Tryd.underlying44 info3 rfl (by decide) (by omega) u14 x14_2 (rd t439 x46_2) [.int .i64 (rd t439 x46_2)] (fun k_ => some k_ ≠ (.slice (some ad451) t439.length co19 : Value).ownBlock ∧ some k_ ≠ (.slice Ao27 t442.length co27 : Value).ownBlock ∧ some k_ ≠ (.slice (some ad451) t439.length co19 : Value).ownBlock) (fun _ => False) rfl rfl ?aP (fun _ hk => hk.elim) ?aF ?aO ?aB ?aS ?aL ?_; (case aP => exact rfl); (case aB => exact (by repeat (first | (with_reducible first | exact HB.out | apply below_alloc | apply pw_below_drewN | apply below_drew1) | exact HB.out))); (case aF => exact (fun k_ hk => ⟨Kd.fresh' (Kd.R_lt (by (with_reducible repeat (first | apply Kd.R_alloc | apply Kd.R_drewN | apply Kd.R_drew)); exact HO_9.out)) k_ hk, Kd.fresh' (Kd.R_lt (by (with_reducible repeat (first | apply Kd.R_alloc | apply Kd.R_drewN | apply Kd.R_drew)); exact HO_10.out)) k_ hk, Kd.fresh' (Kd.R_lt (by (with_reducible repeat (first | apply Kd.R_alloc | apply Kd.R_drewN | apply Kd.R_drew)); exact HO_44.out)) k_ hk⟩)); (case aO => exact (by (with_reducible repeat (first | apply Kd.R_alloc | apply Kd.R_drewN | apply Kd.R_drew)); exact HO_14.out)); (case aS => exact (below_size (by repeat (first | (with_reducible first | exact HB.out | apply below_alloc | apply pw_below_drewN | apply below_drew1) | exact HB.out)))); (case aL => have := LMc26.out; omega); intro v454 w28 ho hb hg hat; rw [← Ny453.out] at ho; have n0_ := Aside0.mk (Kd.R_after (ok := (fun k_ => some k_ ≠ (.slice Ao27 t442.length co27 : Value).ownBlock)) (by (with_reducible repeat (first | apply Kd.R_alloc | apply Kd.R_drewN | apply Kd.R_drew)); exact HO_9.out) hg hat); have n1_ := Aside0.mk (Kd.R_after (ok := (fun k_ => some k_ ≠ (.slice (some ad451) t439.length co19 : Value).ownBlock ∧ some k_ ≠ (.slice (some ad451) t439.length co19 : Value).ownBlock)) (by (with_reducible repeat (first | apply Kd.R_alloc | apply Kd.R_drewN | apply Kd.R_drew)); exact Kd.R_mono HO_10.out (fun _ hk => ⟨⟨hk.1, hk.2.2⟩, hk.2.1⟩)) hg hat); have n2_ := Aside0.mk (Kd.R_over' (by (with_reducible repeat (first | apply Kd.R_alloc | apply Kd.R_drewN | apply Kd.R_drew)); exact HO_11.out) (Kd.R_typed (by (with_reducible repeat (first | apply Kd.R_alloc | apply Kd.R_drewN | apply Kd.R_drew)); exact HO_14.out)) (by decide) hg); have n3_ := Aside0.mk (Kd.R_after (ok := (fun k_ => some k_ ≠ (.slice Ao27 t442.length co27 : Value).ownBlock)) (by (with_reducible repeat (first | apply Kd.R_alloc | apply Kd.R_drewN | apply Kd.R_drew)); exact HO_44.out) hg hat); have n4_ := Aside0.mk (hb); have n5_ := Aside0.mk (ho); clear HO_9; clear HO_10; clear HO_11; clear HO_44; clear HB; clear HO_14; have HO_9 := n0_; have HO_10 := n1_; have HO_11 := n2_; have HO_44 := n3_; have HB := n4_; have HO455 := n5_; clear n0_ n1_ n2_ n3_ n4_ n5_; clear ho hb hg hat))
                        repeat (go_quiet (first | (go_at_call 28; (with_reducible refine (orielref03_In.calls k2 _ _ t442 (rd t439 x46_2) false _ ?side1 ?side2 A23.out).mono ?_); (case side1 => repeat (first | exact (Kd.R_reads' HO_10.out).2.2 | (with_reducible refine Kd.C_alloc ?_ _) | (with_reducible refine Kd.C_drewN ?_ _) | (with_reducible refine Kd.C_drew ?_))); (case side2 => exact (Kd.R_reads' HO_10.out).2.1); rintro e w' ⟨rfl, ⟨nd, rfl⟩⟩; (try first | exact ⟨rfl, _, World.drewN_drewN _ _ _⟩ | exact ⟨rfl, _, Eq.trans (World.drewN_drewN _ _ _) (congrArg (World.drewN _) (Nat.add_assoc _ _ _))⟩)) | ((with_reducible refine gate_builtin (b := .append) (xs := #[.tmp 54, .tmp 56]) rfl ?_); (try (refine gate_guard (by rfl) ?_; dsimp only)); at_builtin; refine Kd.R_append (Kd.int .i64) (w0 := w) w.heap.size rfl (.tmp 54) (.tmp 56) 44 3 (.int .i64 0) 8 rfl Tryd.underlying44 info3 rfl (by decide) (by omega) u14 x14_2 (rd t439 x46_2) [.int .i64 (rd t439 x46_2)] (fun k_ => some k_ ≠ (.slice (some ad451) t439.length co19 : Value).ownBlock ∧ some k_ ≠ (.slice Ao27 t442.length co27 : Value).ownBlock ∧ some k_ ≠ (.slice (some ad451) t439.length co19 : Value).ownBlock) (fun _ => False) rfl rfl ?aP (fun _ hk => hk.elim) ?aF ?aO ?aB ?aS ?aL ?_; (case aP => exact rfl); (case aB => exact (by repeat (first | (with_reducible first | exact HB.out | apply below_alloc | apply pw_below_drewN | apply below_drew1) | exact HB.out))); (case aF => exact (fun k_ hk => ⟨Kd.fresh' (Kd.R_lt (by (with_reducible repeat (first | apply Kd.R_alloc | apply Kd.R_drewN | apply Kd.R_drew)); exact HO_9.out)) k_ hk, Kd.fresh' (Kd.R_lt (by (with_reducible repeat (first | apply Kd.R_alloc | apply Kd.R_drewN | apply Kd.R_drew)); exact HO_10.out)) k_ hk, Kd.fresh' (Kd.R_lt (by (with_reducible repeat (first | apply Kd.R_alloc | apply Kd.R_drewN | apply Kd.R_drew)); exact HO_44.out)) k_ hk⟩)); (case aO => exact (by (with_reducible repeat (first | apply Kd.R_alloc | apply Kd.R_drewN | apply Kd.R_drew)); exact HO_14.out)); (case aS => exact (below_size (by repeat (first | (with_reducible first | exact HB.out | apply below_alloc | apply pw_below_drewN | apply below_drew1) | exact HB.out)))); (case aL => have := LMc26.out; omega); intro v454 w28 ho hb hg hat; rw [← Ny453.out] at ho; have n0_ := Aside0.mk (Kd.R_after (ok := (fun k_ => some k_ ≠ (.slice Ao27 t442.length co27 : Value).ownBlock)) (by (with_reducible repeat (first | apply Kd.R_alloc | apply Kd.R_drewN | apply Kd.R_drew)); exact HO_9.out) hg hat); have n1_ := Aside0.mk (Kd.R_after (ok := (fun k_ => some k_ ≠ (.slice (some ad451) t439.length co19 : Value).ownBlock ∧ some k_ ≠ (.slice (some ad451) t439.length co19 : Value).ownBlock)) (by (with_reducible repeat (first | apply Kd.R_alloc | apply Kd.R_drewN | apply Kd.R_drew)); exact Kd.R_mono HO_10.out (fun _ hk => ⟨⟨hk.1, hk.2.2⟩, hk.2.1⟩)) hg hat); have n2_ := Aside0.mk (Kd.R_over' (by (with_reducible repeat (first | apply Kd.R_alloc | apply Kd.R_drewN | apply Kd.R_drew)); exact HO_11.out) (Kd.R_typed (by (with_reducible repeat (first | apply Kd.R_alloc | apply Kd.R_drewN | apply Kd.R_drew)); exact HO_14.out)) (by decide) hg); have n3_ := Aside0.mk (Kd.R_after (ok := (fun k_ => some k_ ≠ (.slice Ao27 t442.length co27 : Value).ownBlock)) (by (with_reducible repeat (first | apply Kd.R_alloc | apply Kd.R_drewN | apply Kd.R_drew)); exact HO_44.out) hg hat); have n4_ := Aside0.mk (hb); have n5_ := Aside0.mk (ho); clear HO_9; clear HO_10; clear HO_11; clear HO_44; clear HB; clear HO_14; have HO_9 := n0_; have HO_10 := n1_; have HO_11 := n2_; have HO_44 := n3_; have HB := n4_; have HO455 := n5_; clear n0_ n1_ n2_ n3_ n4_ n5_; clear ho hb hg hat)); try go_wp2_with (first | (go_at_call 28; (with_reducible refine (orielref03_In.calls k2 _ _ t442 (rd t439 x46_2) false _ ?side1 ?side2 A23.out).mono ?_); (case side1 => repeat (first | exact (Kd.R_reads' HO_10.out).2.2 | (with_reducible refine Kd.C_alloc ?_ _) | (with_reducible refine Kd.C_drewN ?_ _) | (with_reducible refine Kd.C_drew ?_))); (case side2 => exact (Kd.R_reads' HO_10.out).2.1); rintro e w' ⟨rfl, ⟨nd, rfl⟩⟩; (try first | exact ⟨rfl, _, World.drewN_drewN _ _ _⟩ | exact ⟨rfl, _, Eq.trans (World.drewN_drewN _ _ _) (congrArg (World.drewN _) (Nat.add_assoc _ _ _))⟩)) | ((with_reducible refine gate_builtin (b := .append) (xs := #[.tmp 54, .tmp 56]) rfl ?_); (try (refine gate_guard (by rfl) ?_; dsimp only)); at_builtin; refine Kd.R_append (Kd.int .i64) (w0 := w) w.heap.size rfl (.tmp 54) (.tmp 56) 44 3 (.int .i64 0) 8 rfl Tryd.underlying44 info3 rfl (by decide) (by omega) u14 x14_2 (rd t439 x46_2) [.int .i64 (rd t439 x46_2)] (fun k_ => some k_ ≠ (.slice (some ad451) t439.length co19 : Value).ownBlock ∧ some k_ ≠ (.slice Ao27 t442.length co27 : Value).ownBlock ∧ some k_ ≠ (.slice (some ad451) t439.length co19 : Value).ownBlock) (fun _ => False) rfl rfl ?aP (fun _ hk => hk.elim) ?aF ?aO ?aB ?aS ?aL ?_; (case aP => exact rfl); (case aB => exact (by repeat (first | (with_reducible first | exact HB.out | apply below_alloc | apply pw_below_drewN | apply below_drew1) | exact HB.out))); (case aF => exact (fun k_ hk => ⟨Kd.fresh' (Kd.R_lt (by (with_reducible repeat (first | apply Kd.R_alloc | apply Kd.R_drewN | apply Kd.R_drew)); exact HO_9.out)) k_ hk, Kd.fresh' (Kd.R_lt (by (with_reducible repeat (first | apply Kd.R_alloc | apply Kd.R_drewN | apply Kd.R_drew)); exact HO_10.out)) k_ hk, Kd.fresh' (Kd.R_lt (by (with_reducible repeat (first | apply Kd.R_alloc | apply Kd.R_drewN | apply Kd.R_drew)); exact HO_44.out)) k_ hk⟩)); (case aO => exact (by (with_reducible repeat (first | apply Kd.R_alloc | apply Kd.R_drewN | apply Kd.R_drew)); exact HO_14.out)); (case aS => exact (below_size (by repeat (first | (with_reducible first | exact HB.out | apply below_alloc | apply pw_below_drewN | apply below_drew1) | exact HB.out)))); (case aL => have := LMc26.out; omega); intro v454 w28 ho hb hg hat; rw [← Ny453.out] at ho; have n0_ := Aside0.mk (Kd.R_after (ok := (fun k_ => some k_ ≠ (.slice Ao27 t442.length co27 : Value).ownBlock)) (by (with_reducible repeat (first | apply Kd.R_alloc | apply Kd.R_drewN | apply Kd.R_drew)); exact HO_9.out) hg hat); have n1_ := Aside0.mk (Kd.R_after (ok := (fun k_ => some k_ ≠ (.slice (some ad451) t439.length co19 : Value).ownBlock ∧ some k_ ≠ (.slice (some ad451) t439.length co19 : Value).ownBlock)) (by (with_reducible repeat (first | apply Kd.R_alloc | apply Kd.R_drewN | apply Kd.R_drew)); exact Kd.R_mono HO_10.out (fun _ hk => ⟨⟨hk.1, hk.2.2⟩, hk.2.1⟩)) hg hat); have n2_ := Aside0.mk (Kd.R_over' (by (with_reducible repeat (first | apply Kd.R_alloc | apply Kd.R_drewN | apply Kd.R_drew)); exact HO_11.out) (Kd.R_typed (by (with_reducible repeat (first | apply Kd.R_alloc | apply Kd.R_drewN | apply Kd.R_drew)); exact HO_14.out)) (by decide) hg); have n3_ := Aside0.mk (Kd.R_after (ok := (fun k_ => some k_ ≠ (.slice Ao27 t442.length co27 : Value).ownBlock)) (by (with_reducible repeat (first | apply Kd.R_alloc | apply Kd.R_drewN | apply Kd.R_drew)); exact HO_44.out) hg hat); have n4_ := Aside0.mk (hb); have n5_ := Aside0.mk (ho); clear HO_9; clear HO_10; clear HO_11; clear HO_44; clear HB; clear HO_14; have HO_9 := n0_; have HO_10 := n1_; have HO_11 := n2_; have HO_44 := n3_; have HB := n4_; have HO455 := n5_; clear n0_ n1_ n2_ n3_ n4_ n5_; clear ho hb hg hat)))
                        go_roundg k2
                        case measure => have := HJ4.out; have := HK2.out; omega
                        case rel => exact ⟨(y453), (wrap64 (x46_2 + 1)), (by first | rfl | (simp; done) | (simp [*]; done)), H', ⟨by have := HJ4.out; have := HK2.out; omega⟩, ⟨by (with_reducible repeat (first | apply Kd.R_alloc | apply Kd.R_drewN | apply Kd.R_drew)); exact HO_9.out⟩, ⟨by (with_reducible repeat (first | apply Kd.R_alloc | apply Kd.R_drewN | apply Kd.R_drew)); exact Kd.R_mono HO_10.out (fun _ hk => ⟨hk.1.1, ⟨hk.2, hk.1.2⟩⟩)⟩, ⟨by (with_reducible repeat (first | apply Kd.R_alloc | apply Kd.R_drewN | apply Kd.R_drew)); exact HO_11.out⟩, ⟨by (with_reducible repeat (first | apply Kd.R_alloc | apply Kd.R_drewN | apply Kd.R_drew)); exact HO455.out⟩, ⟨by (with_reducible repeat (first | apply Kd.R_alloc | apply Kd.R_drewN | apply Kd.R_drew)); exact HO_44.out⟩, ⟨by repeat (first | (with_reducible first | exact HB.out | apply below_alloc | apply pw_below_drewN | apply below_drew1) | exact HB.out)⟩⟩
                      · rw [if_neg c26] at H
                        exact absurd H (by simp)
                  · rw [if_neg c22] at H
                    exact absurd H (by simp)
                · rw [if_neg c21] at H
                  exact absurd H (by simp)
              · rw [if_neg c20] at H
                have c20b0 : decide (x46_2 < (t439.length : Int)) = false := decide_eq_false c20
                clear c20
                obtain ⟨y456, hy456⟩ : ∃ y_ : List Int, y_ = (([] : List Int)) := ⟨_, rfl⟩
                replace H : (oriellaw03_PackSets.l1 k2 l0 l2 a3 t439 t442 y448 l0 l1 x14_2 y456 t439 (t439.length : Int) 0) = some r := by first | (rw [hy456]; with_reducible exact H) | (have H2_ := (Option.bind_some _ _).symm.trans H; rw [hy456]; with_reducible exact H2_) | (have H2_ := (Option.bind_some _ _).symm.trans H; with_reducible exact H2_) | with_reducible exact H | (rw [hy456]; exact H) | exact H
                have Ny456 := Aside0.mk hy456
                clear hy456
                have H' := Aside0.mk H
                clear H
                go_wp2_with (first | ((with_reducible refine gate_dst (N := 59) rfl ?_); (try (refine gate_guard (by rfl) ?_; dsimp only)); refine Kd.R_lit (Kd.int .i64) _ 3 ?hg (N := 59) ?hd (xs := ([] : List Int)) (inner := []) (ok := fun _ => True) (okp := fun _ => True) ?hr ?hp (fun _ hk => hk) trivial (Below.refl _ _) (Nat.le_refl _) (by simp) ?_; (case hd => rfl); (case hg => rfl); (case hr => first | (go_simp; done) | (go_simp; rfl)); (case hp => exact (Reps.none _ _)); intro v457 w29 ho30 hb hg_ hnew_; clear hg_ hnew_; (first | rw [← Ny456.out] at ho30 | (simp only [Int.reduceToNat] at ho30; rw [← Ny456.out] at ho30)); have n0_ := Aside0.mk (Kd.R_elder' (by (with_reducible repeat (first | apply Kd.R_alloc | apply Kd.R_drewN | apply Kd.R_drew)); exact HO_9.out) (Kd.R_base ho30) hb); have n1_ := Aside0.mk (Kd.R_elder' (by (with_reducible repeat (first | apply Kd.R_alloc | apply Kd.R_drewN | apply Kd.R_drew)); exact HO_10.out) (Kd.R_base ho30) hb); have n2_ := Aside0.mk (Kd.R_below (by (with_reducible repeat (first | apply Kd.R_alloc | apply Kd.R_drewN | apply Kd.R_drew)); exact HO_11.out) hb); have n3_ := Aside0.mk (Kd.R_elder' (by (with_reducible repeat (first | apply Kd.R_alloc | apply Kd.R_drewN | apply Kd.R_drew)); exact HO_14.out) (Kd.R_base ho30) hb); have n4_ := Aside0.mk (Kd.R_elder' (by (with_reducible repeat (first | apply Kd.R_alloc | apply Kd.R_drewN | apply Kd.R_drew)); exact HO_44.out) (Kd.R_base ho30) hb); have n5_ := Aside0.mk (Kd.R_lower (Kd.R_new' (Kd.R_new' (Kd.R_new' (Kd.R_new' ho30 (Kd.R_lt (by (with_reducible repeat (first | apply Kd.R_alloc | apply Kd.R_drewN | apply Kd.R_drew)); exact HO_9.out))) (Kd.R_lt (by (with_reducible repeat (first | apply Kd.R_alloc | apply Kd.R_drewN | apply Kd.R_drew)); exact HO_10.out))) (Kd.R_lt (by (with_reducible repeat (first | apply Kd.R_alloc | apply Kd.R_drewN | apply Kd.R_drew)); exact HO_14.out))) (Kd.R_lt (by (with_reducible repeat (first | apply Kd.R_alloc | apply Kd.R_drewN | apply Kd.R_drew)); exact HO_44.out))) (below_size (by repeat (first | (with_reducible first | exact HB.out | apply below_alloc | apply pw_below_drewN | apply below_drew1) | exact HB.out)))); have n6_ := Aside0.mk (below_step (by repeat (first | (with_reducible first | exact HB.out | apply below_alloc | apply pw_below_drewN | apply below_drew1) | exact HB.out)) hb); clear HO_9; clear HO_10; clear HO_11; clear HO_14; clear HO_44; clear HB; have HO_9 := n0_; have HO_10 := n1_; have HO_11 := n2_; have HO_14 := n3_; have HO_44 := n4_; have HO458 := n5_; have HB := n6_; clear n0_ n1_ n2_ n3_ n4_ n5_ n6_; clear hb ho30))
                repeat (go_quiet (first | ((with_reducible refine gate_dst (N := 59) rfl ?_); (try (refine gate_guard (by rfl) ?_; dsimp only)); refine Kd.R_lit (Kd.int .i64) _ 3 ?hg (N := 59) ?hd (xs := ([] : List Int)) (inner := []) (ok := fun _ => True) (okp := fun _ => True) ?hr ?hp (fun _ hk => hk) trivial (Below.refl _ _) (Nat.le_refl _) (by simp) ?_; (case hd => rfl); (case hg => rfl); (case hr => first | (go_simp; done) | (go_simp; rfl)); (case hp => exact (Reps.none _ _)); intro v457 w29 ho30 hb hg_ hnew_; clear hg_ hnew_; (first | rw [← Ny456.out] at ho30 | (simp only [Int.reduceToNat] at ho30; rw [← Ny456.out] at ho30)); have n0_ := Aside0.mk (Kd.R_elder' (by (with_reducible repeat (first | apply Kd.R_alloc | apply Kd.R_drewN | apply Kd.R_drew)); exact HO_9.out) (Kd.R_base ho30) hb); have n1_ := Aside0.mk (Kd.R_elder' (by (with_reducible repeat (first | apply Kd.R_alloc | apply Kd.R_drewN | apply Kd.R_drew)); exact HO_10.out) (Kd.R_base ho30) hb); have n2_ := Aside0.mk (Kd.R_below (by (with_reducible repeat (first | apply Kd.R_alloc | apply Kd.R_drewN | apply Kd.R_drew)); exact HO_11.out) hb); have n3_ := Aside0.mk (Kd.R_elder' (by (with_reducible repeat (first | apply Kd.R_alloc | apply Kd.R_drewN | apply Kd.R_drew)); exact HO_14.out) (Kd.R_base ho30) hb); have n4_ := Aside0.mk (Kd.R_elder' (by (with_reducible repeat (first | apply Kd.R_alloc | apply Kd.R_drewN | apply Kd.R_drew)); exact HO_44.out) (Kd.R_base ho30) hb); have n5_ := Aside0.mk (Kd.R_lower (Kd.R_new' (Kd.R_new' (Kd.R_new' (Kd.R_new' ho30 (Kd.R_lt (by (with_reducible repeat (first | apply Kd.R_alloc | apply Kd.R_drewN | apply Kd.R_drew)); exact HO_9.out))) (Kd.R_lt (by (with_reducible repeat (first | apply Kd.R_alloc | apply Kd.R_drewN | apply Kd.R_drew)); exact HO_10.out))) (Kd.R_lt (by (with_reducible repeat (first | apply Kd.R_alloc | apply Kd.R_drewN | apply Kd.R_drew)); exact HO_14.out))) (Kd.R_lt (by (with_reducible repeat (first | apply Kd.R_alloc | apply Kd.R_drewN | apply Kd.R_drew)); exact HO_44.out))) (below_size (by repeat (first | (with_reducible first | exact HB.out | apply below_alloc | apply pw_below_drewN | apply below_drew1) | exact HB.out)))); have n6_ := Aside0.mk (below_step (by repeat (first | (with_reducible first | exact HB.out | apply below_alloc | apply pw_below_drewN | apply below_drew1) | exact HB.out)) hb); clear HO_9; clear HO_10; clear HO_11; clear HO_14; clear HO_44; clear HB; have HO_9 := n0_; have HO_10 := n1_; have HO_11 := n2_; have HO_14 := n3_; have HO_44 := n4_; have HO458 := n5_; have HB := n6_; clear n0_ n1_ n2_ n3_ n4_ n5_ n6_; clear hb ho30)); try go_wp2_with (first | ((with_reducible refine gate_dst (N := 59) rfl ?_); (try (refine gate_guard (by rfl) ?_; dsimp only)); refine Kd.R_lit (Kd.int .i64) _ 3 ?hg (N := 59) ?hd (xs := ([] : List Int)) (inner := []) (ok := fun _ => True) (okp := fun _ => True) ?hr ?hp (fun _ hk => hk) trivial (Below.refl _ _) (Nat.le_refl _) (by simp) ?_; (case hd => rfl); (case hg => rfl); (case hr => first | (go_simp; done) | (go_simp; rfl)); (case hp => exact (Reps.none _ _)); intro v457 w29 ho30 hb hg_ hnew_; clear hg_ hnew_; (first | rw [← Ny456.out] at ho30 | (simp only [Int.reduceToNat] at ho30; rw [← Ny456.out] at ho30)); have n0_ := Aside0.mk (Kd.R_elder' (by (with_reducible repeat (first | apply Kd.R_alloc | apply Kd.R_drewN | apply Kd.R_drew)); exact HO_9.out) (Kd.R_base ho30) hb); have n1_ := Aside0.mk (Kd.R_elder' (by (with_reducible repeat (first | apply Kd.R_alloc | apply Kd.R_drewN | apply Kd.R_drew)); exact HO_10.out) (Kd.R_base ho30) hb); have n2_ := Aside0.mk (Kd.R_below (by (with_reducible repeat (first | apply Kd.R_alloc | apply Kd.R_drewN | apply Kd.R_drew)); exact HO_11.out) hb); have n3_ := Aside0.mk (Kd.R_elder' (by (with_reducible repeat (first | apply Kd.R_alloc | apply Kd.R_drewN | apply Kd.R_drew)); exact HO_14.out) (Kd.R_base ho30) hb); have n4_ := Aside0.mk (Kd.R_elder' (by (with_reducible repeat (first | apply Kd.R_alloc | apply Kd.R_drewN | apply Kd.R_drew)); exact HO_44.out) (Kd.R_base ho30) hb); have n5_ := Aside0.mk (Kd.R_lower (Kd.R_new' (Kd.R_new' (Kd.R_new' (Kd.R_new' ho30 (Kd.R_lt (by (with_reducible repeat (first | apply Kd.R_alloc | apply Kd.R_drewN | apply Kd.R_drew)); exact HO_9.out))) (Kd.R_lt (by (with_reducible repeat (first | apply Kd.R_alloc | apply Kd.R_drewN | apply Kd.R_drew)); exact HO_10.out))) (Kd.R_lt (by (with_reducible repeat (first | apply Kd.R_alloc | apply Kd.R_drewN | apply Kd.R_drew)); exact HO_14.out))) (Kd.R_lt (by (with_reducible repeat (first | apply Kd.R_alloc | apply Kd.R_drewN | apply Kd.R_drew)); exact HO_44.out))) (below_size (by repeat (first | (with_reducible first | exact HB.out | apply below_alloc | apply pw_below_drewN | apply below_drew1) | exact HB.out)))); have n6_ := Aside0.mk (below_step (by repeat (first | (with_reducible first | exact HB.out | apply below_alloc | apply pw_below_drewN | apply below_drew1) | exact HB.out)) hb); clear HO_9; clear HO_10; clear HO_11; clear HO_14; clear HO_44; clear HB; have HO_9 := n0_; have HO_10 := n1_; have HO_11 := n2_; have HO_14 := n3_; have HO_44 := n4_; have HO458 := n5_; have HB := n6_; clear n0_ n1_ n2_ n3_ n4_ n5_ n6_; clear hb ho30)))
                go_loopg [17, 62] k2 (fun kq v17 v62 w' => ∃ (x17_3 : List Int) (x62_3 : Int), v62 = .int .i64 x62_3 ∧ Aside0 (oriellaw03_PackSets.l1 kq l0 l2 a3 t439 t442 y448 l0 l1 x14_2 x17_3 t439 (t439.length : Int) x62_3 = some r) ∧ Aside0 (kq ≤ k2) ∧ Aside0 (Kd.R (Kd.int .i64) 3 w' w.heap.size (fun k_ => some k_ ≠ (v443 : Value).ownBlock ∧ some k_ ≠ (u14 : Value).ownBlock ∧ some k_ ≠ (v17 : Value).ownBlock) (.slice Ao19 t439.length co19) t439) ∧ Aside0 (Kd.R (Kd.int .i64) 3 w' w.heap.size (fun k_ => some k_ ≠ ((.slice Ao19 t439.length co19) : Value).ownBlock ∧ some k_ ≠ (u14 : Value).ownBlock ∧ some k_ ≠ (v17 : Value).ownBlock ∧ some k_ ≠ ((.slice Ao19 t439.length co19) : Value).ownBlock) v443 t442) ∧ Aside0 (Kd.R (Kd.int .u64) 23 w' w.heap.size (fun _ => True) v449 y448) ∧ Aside0 (Kd.R (Kd.int .i64) 3 w' w.heap.size (fun k_ => some k_ ≠ ((.slice Ao19 t439.length co19) : Value).ownBlock ∧ some k_ ≠ (v443 : Value).ownBlock ∧ some k_ ≠ (v17 : Value).ownBlock ∧ some k_ ≠ ((.slice Ao19 t439.length co19) : Value).ownBlock) u14 x14_2) ∧ Aside0 (Kd.R (Kd.int .i64) 3 w' w.heap.size (fun k_ => some k_ ≠ ((.slice Ao19 t439.length co19) : Value).ownBlock ∧ some k_ ≠ (v443 : Value).ownBlock ∧ some k_ ≠ (u14 : Value).ownBlock ∧ some k_ ≠ ((.slice Ao19 t439.length co19) : Value).ownBlock) v17 x17_3) ∧ Aside0 (Kd.R (Kd.int .i64) 3 w' w.heap.size (fun k_ => some k_ ≠ (v443 : Value).ownBlock ∧ some k_ ≠ (u14 : Value).ownBlock ∧ some k_ ≠ (v17 : Value).ownBlock) (.slice Ao19 t439.length co19) t439) ∧ Aside0 (Below w.heap.size w w'))
                case atStart => exact ⟨(y456), (0), (by first | rfl | (simp; done) | (simp [*]; done)), H', ⟨Nat.le_refl _⟩, ⟨by (with_reducible repeat (first | apply Kd.R_alloc | apply Kd.R_drewN | apply Kd.R_drew)); exact Kd.R_mono HO_9.out (fun _ hk => ⟨hk.1.1, ⟨hk.1.2, hk.2⟩⟩)⟩, ⟨by (with_reducible repeat (first | apply Kd.R_alloc | apply Kd.R_drewN | apply Kd.R_drew)); exact Kd.R_mono HO_10.out (fun _ hk => ⟨hk.1.1, ⟨hk.1.2.1, ⟨hk.2, hk.1.1⟩⟩⟩)⟩, ⟨by (with_reducible repeat (first | apply Kd.R_alloc | apply Kd.R_drewN | apply Kd.R_drew)); exact HO_11.out⟩, ⟨by (with_reducible repeat (first | apply Kd.R_alloc | apply Kd.R_drewN | apply Kd.R_drew)); exact Kd.R_mono HO_14.out (fun _ hk => ⟨hk.1.1, ⟨hk.1.2.1, ⟨hk.2, hk.1.1⟩⟩⟩)⟩, ⟨by (with_reducible repeat (first | apply Kd.R_alloc | apply Kd.R_drewN | apply Kd.R_drew)); exact Kd.R_mono HO458.out (fun _ hk => ⟨hk.1.1.1.2, ⟨hk.1.1.2, ⟨hk.1.2, hk.1.1.1.2⟩⟩⟩)⟩, ⟨by (with_reducible repeat (first | apply Kd.R_alloc | apply Kd.R_drewN | apply Kd.R_drew)); exact Kd.R_mono HO_9.out (fun _ hk => ⟨hk.1.1, ⟨hk.1.2, hk.2⟩⟩)⟩, ⟨by repeat (first | (with_reducible first | exact HB.out | apply below_alloc | apply pw_below_drewN | apply below_drew1) | exact HB.out)⟩⟩
                case round =>
                  clear H'
                  try clear c1
                  try clear c2
                  try clear p2
                  try clear p4
                  try clear q4
                  try clear hx4
                  try clear c6
                  try clear c6b0
                  try clear c6b1
                  try clear p6
                  try clear c7
                  try clear c7b0
                  try clear c7b1
                  try clear c8
                  try clear c13
                  try clear c20
                  try clear c20b0
                  try clear c21
                  try clear c21b0
                  try clear c22
                  try clear c22b0
                  try clear c24
                  try clear c26
                  try clear hx451_0
                  try clear p2
                  try clear p451
                  try clear q451
                  obtain ⟨x17_3, x62_3, rfl, HA, HK3, HO_9, HO_10, HO_11, HO_14, HO_17, HO_60, HB⟩ := hrel
                  cases gk with
                  | zero => exact absurd HA.out (by simp [oriellaw03_PackSets.l1])
                  | succ k3 =>
                    have H := HA.out
                    clear HA
                    simp only [oriellaw03_PackSets.l1] at H
                    by_cases c31 : x62_3 < (t439.length : Int)
                    · rw [if_pos c31] at H
                      have c31b0 : decide (x62_3 < (t439.length : Int)) = true := decide_eq_true c31
                      clear c31
                      by_cases c32 : 0 ≤ x62_3
                      · rw [if_pos c32] at H
                        have c32b0 : decide (0 ≤ x62_3) = true := decide_eq_true c32
                        clear c32
                        by_cases c33 : x62_3 < (t439.length : Int)
                        · rw [if_pos c33] at H
                          have c33b0 : decide (x62_3 < (t439.length : Int)) = true := decide_eq_true c33
                          clear c33
                          by_cases c34 : (rd t439 x62_3) = a3
                          · rw [if_pos c34] at H
                            have c34b0 : ((rd t439 x62_3) == a3) = true := beq_iff_eq.mpr c34
                            have c34b1 : ((rd t439 x62_3) != a3) = false := bne_eq_false_iff_eq.mpr c34
                            clear c34
                            have H' := Aside0.mk H
                            clear H
                            have p459 : 0 ≤ (x62_3 : Int) := of_decide_eq_true (by first | (with_reducible assumption) | assumption)
                            have q459 : x62_3 < (t439.length : Int) := of_decide_eq_true (by first | (with_reducible assumption) | assumption)
                            obtain ⟨ad459, e459, hx459_0⟩ := Kd.at_int (Kd.R_reads' HO_60.out).2.2 x62_3 p459 q459
                            cases e459
                            replace p459 := eq_true p459
                            replace q459 := eq_true q459
                            go_wp2
                            repeat (go_quiet (fail); try go_wp2)
                            go_roundg k3
                            case measure => have := HJ4.out; have := HK2.out; have := HK3.out; omega
                            case rel => exact ⟨(x17_3), (wrap64 (x62_3 + 1)), (by first | rfl | (simp; done) | (simp [*]; done)), H', ⟨by have := HJ4.out; have := HK2.out; have := HK3.out; omega⟩, ⟨by (with_reducible repeat (first | apply Kd.R_alloc | apply Kd.R_drewN | apply Kd.R_drew)); exact HO_9.out⟩, ⟨by (with_reducible repeat (first | apply Kd.R_alloc | apply Kd.R_drewN | apply Kd.R_drew)); exact HO_10.out⟩, ⟨by (with_reducible repeat (first | apply Kd.R_alloc | apply Kd.R_drewN | apply Kd.R_drew)); exact HO_11.out⟩, ⟨by (with_reducible repeat (first | apply Kd.R_alloc | apply Kd.R_drewN | apply Kd.R_drew)); exact HO_14.out⟩, ⟨by (with_reducible repeat (first | apply Kd.R_alloc | apply Kd.R_drewN | apply Kd.R_drew)); exact HO_17.out⟩, ⟨by (with_reducible repeat (first | apply Kd.R_alloc | apply Kd.R_drewN | apply Kd.R_drew)); exact HO_60.out⟩, ⟨by repeat (first | (with_reducible first | exact HB.out | apply below_alloc | apply pw_below_drewN | apply below_drew1) | exact HB.out)⟩⟩
                          · rw [if_neg c34] at H
                            have c34b0 : ((rd t439 x62_3) == a3) = false := beq_eq_false_iff_ne.mpr c34
                            have c34b1 : ((rd t439 x62_3) != a3) = true := bne_iff_ne.mpr c34
                            by_cases c35 : x17_3.length < 17592186044416
                            · rw [if_pos c35] at H
                              have LMc35 := Aside0.mk c35
                              clear c35
                              obtain ⟨y460, hy460⟩ : ∃ y_ : List Int, y_ = (x17_3 ++ [rd t439 x62_3]) := ⟨_, rfl⟩
                              replace H : (oriellaw03_PackSets.l1 k3 l0 l2 a3 t439 t442 y448 l0 l1 x14_2 y460 t439 (t439.length : Int) (wrap64 (x62_3 + 1))) = some r := by first | (rw [hy460]; with_reducible exact H) | (have H2_ := (Option.bind_some _ _).symm.trans H; rw [hy460]; with_reducible exact H2_) | (have H2_ := (Option.bind_some _ _).symm.trans H; with_reducible exact H2_) | with_reducible exact H | (rw [hy460]; exact H) | exact H
                              have Ny460 := Aside0.mk hy460
                              clear hy460
                              have H' := Aside0.mk H
                              clear H
                              have p459 : 0 ≤ (x62_3 : Int) := of_decide_eq_true (by first | (with_reducible assumption) | assumption)
                              have q459 : x62_3 < (t439.length : Int) := of_decide_eq_true (by first | (with_reducible assumption) | assumption)
                              obtain ⟨ad459, e459, hx459_0⟩ := Kd.at_int (Kd.R_reads' HO_60.out).2.2 x62_3 p459 q459
                              cases e459
                              replace p459 := eq_true p459
                              replace q459 := eq_true q459
                              go_wp2_with (first | ((with_reducible refine gate_builtin (b := .append) (xs := #[.tmp 69, .tmp 71]) rfl ?_); (try (refine gate_guard (by rfl) ?_; dsimp only)); at_builtin; refine Kd.R_append (Kd.int .i64) (w0 := w) w.heap.size rfl (.tmp 69) (.tmp 71) 44 3 (.int .i64 0) 8 rfl Tryd.underlying44 info3 rfl (by decide) (by omega) u17 x17_3 (rd t439 x62_3) [.int .i64 (rd t439 x62_3)] (fun k_ => some k_ ≠ (.slice (some ad459) t439.length co19 : Value).ownBlock ∧ some k_ ≠ (v443 : Value).ownBlock ∧ some k_ ≠ (u14 : Value).ownBlock ∧ some k_ ≠ (.slice (some ad459) t439.length co19 : Value).ownBlock) (fun _ => False) rfl rfl ?aP (fun _ hk => hk.elim) ?aF ?aO ?aB ?aS ?aL ?_; (case aP => exact rfl); (case aB => exact (by repeat (first | (with_reducible first | exact HB.out | apply below_alloc | apply pw_below_drewN | apply below_drew1) | exact HB.out))); (case aF => exact (fun k_ hk => ⟨Kd.fresh' (Kd.R_lt (by (with_reducible repeat (first | apply Kd.R_alloc | apply Kd.R_drewN | apply Kd.R_drew)); exact HO_9.out)) k_ hk, Kd.fresh' (Kd.R_lt (by (with_reducible repeat (first | apply Kd.R_alloc | apply Kd.R_drewN | apply Kd.R_drew)); exact HO_10.out)) k_ hk, Kd.fresh' (Kd.R_lt (by (with_reducible repeat (first | apply Kd.R_alloc | apply Kd.R_drewN | apply Kd.R_drew)); exact HO_14.out)) k_ hk, Kd.fresh' (Kd.R_lt (by (with_reducible repeat (first | apply Kd.R_alloc | apply Kd.R_drewN | apply Kd.R_drew)); exact HO_60.out)) k_ hk⟩)); (case aO => exact (by (with_reducible repeat (first | apply Kd.R_alloc | apply Kd.R_drewN | apply Kd.R_drew)); exact HO_17.out)); (case aS => exact (below_size (by repeat (first | (with_reducible first | exact HB.out | apply below_alloc | apply pw_below_drewN | apply below_drew1) | exact HB.out)))); (case aL => have := LMc35.out; omega); intro v461 w36 ho hb hg hat; rw [← Ny460.out] at ho; have n0_ := Aside0.mk (Kd.R_after (ok := (fun k_ => some k_ ≠ (v443 : Value).ownBlock ∧ some k_ ≠ (u14 : Value).ownBlock)) (by (with_reducible repeat (first | apply Kd.R_alloc | apply Kd.R_drewN | apply Kd.R_drew)); exact Kd.R_mono HO_9.out (fun _ hk => ⟨⟨hk.1, hk.2.1⟩, hk.2.2⟩)) hg hat); have n1_ := Aside0.mk (Kd.R_after (ok := (fun k_ => some k_ ≠ (.slice (some ad459) t439.length co19 : Value).ownBlock ∧ some k_ ≠ (u14 : Value).ownBlock ∧ some k_ ≠ (.slice (some ad459) t439.length co19 : Value).ownBlock)) (by (with_reducible repeat (first | apply Kd.R_alloc | apply Kd.R_drewN | apply Kd.R_drew)); exact Kd.R_mono HO_10.out (fun _ hk => ⟨⟨hk.1, ⟨hk.2.1, hk.2.2.2⟩⟩, hk.2.2.1⟩)) hg hat); have n2_ := Aside0.mk (Kd.R_over' (by (with_reducible repeat (first | apply Kd.R_alloc | apply Kd.R_drewN | apply Kd.R_drew)); exact HO_11.out) (Kd.R_typed (by (with_reducible repeat (first | apply Kd.R_alloc | apply Kd.R_drewN | apply Kd.R_drew)); exact HO_17.out)) (by decide) hg); have n3_ := Aside0.mk (Kd.R_after (ok := (fun k_ => some k_ ≠ (.slice (some ad459) t439.length co19 : Value).ownBlock ∧ some k_ ≠ (v443 : Value).ownBlock ∧ some k_ ≠ (.slice (some ad459) t439.length co19 : Value).ownBlock)) (by (with_reducible repeat (first | apply Kd.R_alloc | apply Kd.R_drewN | apply Kd.R_drew)); exact Kd.R_mono HO_14.out (fun _ hk => ⟨⟨hk.1, ⟨hk.2.1, hk.2.2.2⟩⟩, hk.2.2.1⟩)) hg hat); have n4_ := Aside0.mk (Kd.R_after (ok := (fun k_ => some k_ ≠ (v443 : Value).ownBlock ∧ some k_ ≠ (u14 : Value).ownBlock)) (by (with_reducible repeat (first | apply Kd.R_alloc | apply Kd.R_drewN | apply Kd.R_drew)); exact Kd.R_mono HO_60.out (fun _ hk => ⟨⟨hk.1, hk.2.1⟩, hk.2.2⟩)) hg hat); have n5_ := Aside0.mk (hb); have n6_ := Aside0.mk (ho); clear HO_9; clear HO_10; clear HO_11; clear HO_14; clear HO_60; clear HB; clear HO_17; have HO_9 := n0_; have HO_10 := n1_; have HO_11 := n2_; have HO_14 := n3_; have HO_60 := n4_; have HB := n5_; have HO462 := n6_; clear n0_ n1_ n2_ n3_ n4_ n5_ n6_; clear ho hb hg hat))
                              repeat (go_quiet (first | ((with_reducible refine gate_builtin (b := .append) (xs := #[.tmp 69, .tmp 71]) rfl ?_); (try (refine gate_guard (by rfl) ?_; dsimp only)); at_builtin; refine Kd.R_append (Kd.int .i64) (w0 := w) w.heap.size rfl (.tmp 69) (.tmp 71) 44 3 (.int .i64 0) 8 rfl Tryd.underlying44 info3 rfl (by decide) (by omega) u17 x17_3 (rd t439 x62_3) [.int .i64 (rd t439 x62_3)] (fun k_ => some k_ ≠ (.slice (some ad459) t439.length co19 : Value).ownBlock ∧ some k_ ≠ (v443 : Value).ownBlock ∧ some k_ ≠ (u14 : Value).ownBlock ∧ some k_ ≠ (.slice (some ad459) t439.length co19 : Value).ownBlock) (fun _ => False) rfl rfl ?aP (fun _ hk => hk.elim) ?aF ?aO ?aB ?aS ?aL ?_; (case aP => exact rfl); (case aB => exact (by repeat (first | (with_reducible first | exact HB.out | apply below_alloc | apply pw_below_drewN | apply below_drew1) | exact HB.out))); (case aF => exact (fun k_ hk => ⟨Kd.fresh' (Kd.R_lt (by (with_reducible repeat (first | apply Kd.R_alloc | apply Kd.R_drewN | apply Kd.R_drew)); exact HO_9.out)) k_ hk, Kd.fresh' (Kd.R_lt (by (with_reducible repeat (first | apply Kd.R_alloc | apply Kd.R_drewN | apply Kd.R_drew)); exact HO_10.out)) k_ hk, Kd.fresh' (Kd.R_lt (by (with_reducible repeat (first | apply Kd.R_alloc | apply Kd.R_drewN | apply Kd.R_drew)); exact HO_14.out)) k_ hk, Kd.fresh' (Kd.R_lt (by (with_reducible repeat (first | apply Kd.R_alloc | apply Kd.R_drewN | apply Kd.R_drew)); exact HO_60.out)) k_ hk⟩)); (case aO => exact (by (with_reducible repeat (first | apply Kd.R_alloc | apply Kd.R_drewN | apply Kd.R_drew)); exact HO_17.out)); (case aS => exact (below_size (by repeat (first | (with_reducible first | exact HB.out | apply below_alloc | apply pw_below_drewN | apply below_drew1) | exact HB.out)))); (case aL => have := LMc35.out; omega); intro v461 w36 ho hb hg hat; rw [← Ny460.out] at ho; have n0_ := Aside0.mk (Kd.R_after (ok := (fun k_ => some k_ ≠ (v443 : Value).ownBlock ∧ some k_ ≠ (u14 : Value).ownBlock)) (by (with_reducible repeat (first | apply Kd.R_alloc | apply Kd.R_drewN | apply Kd.R_drew)); exact Kd.R_mono HO_9.out (fun _ hk => ⟨⟨hk.1, hk.2.1⟩, hk.2.2⟩)) hg hat); have n1_ := Aside0.mk (Kd.R_after (ok := (fun k_ => some k_ ≠ (.slice (some ad459) t439.length co19 : Value).ownBlock ∧ some k_ ≠ (u14 : Value).ownBlock ∧ some k_ ≠ (.slice (some ad459) t439.length co19 : Value).ownBlock)) (by (with_reducible repeat (first | apply Kd.R_alloc | apply Kd.R_drewN | apply Kd.R_drew)); exact Kd.R_mono HO_10.out (fun _ hk => ⟨⟨hk.1, ⟨hk.2.1, hk.2.2.2⟩⟩, hk.2.2.1⟩)) hg hat); have n2_ := Aside0.mk (Kd.R_over' (by (with_reducible repeat (first | apply Kd.R_alloc | apply Kd.R_drewN | apply Kd.R_drew)); exact HO_11.out) (Kd.R_typed (by (with_reducible repeat (first | apply Kd.R_alloc | apply Kd.R_drewN | apply Kd.R_drew)); exact HO_17.out)) (by decide) hg); have n3_ := Aside0.mk (Kd.R_after (ok := (fun k_ => some k_ ≠ (.slice (some ad459) t439.length co19 : Value).ownBlock ∧ some k_ ≠ (v443 : Value).ownBlock ∧ some k_ ≠ (.slice (some ad459) t439.length co19 : Value).ownBlock)) (by (with_reducible repeat (first | apply Kd.R_alloc | apply Kd.R_drewN | apply Kd.R_drew)); exact Kd.R_mono HO_14.out (fun _ hk => ⟨⟨hk.1, ⟨hk.2.1, hk.2.2.2⟩⟩, hk.2.2.1⟩)) hg hat); have n4_ := Aside0.mk (Kd.R_after (ok := (fun k_ => some k_ ≠ (v443 : Value).ownBlock ∧ some k_ ≠ (u14 : Value).ownBlock)) (by (with_reducible repeat (first | apply Kd.R_alloc | apply Kd.R_drewN | apply Kd.R_drew)); exact Kd.R_mono HO_60.out (fun _ hk => ⟨⟨hk.1, hk.2.1⟩, hk.2.2⟩)) hg hat); have n5_ := Aside0.mk (hb); have n6_ := Aside0.mk (ho); clear HO_9; clear HO_10; clear HO_11; clear HO_14; clear HO_60; clear HB; clear HO_17; have HO_9 := n0_; have HO_10 := n1_; have HO_11 := n2_; have HO_14 := n3_; have HO_60 := n4_; have HB := n5_; have HO462 := n6_; clear n0_ n1_ n2_ n3_ n4_ n5_ n6_; clear ho hb hg hat)); try go_wp2_with (first | ((with_reducible refine gate_builtin (b := .append) (xs := #[.tmp 69, .tmp 71]) rfl ?_); (try (refine gate_guard (by rfl) ?_; dsimp only)); at_builtin; refine Kd.R_append (Kd.int .i64) (w0 := w) w.heap.size rfl (.tmp 69) (.tmp 71) 44 3 (.int .i64 0) 8 rfl Tryd.underlying44 info3 rfl (by decide) (by omega) u17 x17_3 (rd t439 x62_3) [.int .i64 (rd t439 x62_3)] (fun k_ => some k_ ≠ (.slice (some ad459) t439.length co19 : Value).ownBlock ∧ some k_ ≠ (v443 : Value).ownBlock ∧ some k_ ≠ (u14 : Value).ownBlock ∧ some k_ ≠ (.slice (some ad459) t439.length co19 : Value).ownBlock) (fun _ => False) rfl rfl ?aP (fun _ hk => hk.elim) ?aF ?aO ?aB ?aS ?aL ?_; (case aP => exact rfl); (case aB => exact (by repeat (first | (with_reducible first | exact HB.out | apply below_alloc | apply pw_below_drewN | apply below_drew1) | exact HB.out))); (case aF => exact (fun k_ hk => ⟨Kd.fresh' (Kd.R_lt (by (with_reducible repeat (first | apply Kd.R_alloc | apply Kd.R_drewN | apply Kd.R_drew)); exact HO_9.out)) k_ hk, Kd.fresh' (Kd.R_lt (by (with_reducible repeat (first | apply Kd.R_alloc | apply Kd.R_drewN | apply Kd.R_drew)); exact HO_10.out)) k_ hk, Kd.fresh' (Kd.R_lt (by (with_reducible repeat (first | apply Kd.R_alloc | apply Kd.R_drewN | apply Kd.R_drew)); exact HO_14.out)) k_ hk, Kd.fresh' (Kd.R_lt (by (with_reducible repeat (first | apply Kd.R_alloc | apply Kd.R_drewN | apply Kd.R_drew)); exact HO_60.out)) k_ hk⟩)); (case aO => exact (by (with_reducible repeat (first | apply Kd.R_alloc | apply Kd.R_drewN | apply Kd.R_drew)); exact HO_17.out)); (case aS => exact (below_size (by repeat (first | (with_reducible first | exact HB.out | apply below_alloc | apply pw_below_drewN | apply below_drew1) | exact HB.out)))); (case aL => have := LMc35.out; omega); intro v461 w36 ho hb hg hat; rw [← Ny460.out] at ho; have n0_ := Aside0.mk (Kd.R_after (ok := (fun k_ => some k_ ≠ (v443 : Value).ownBlock ∧ some k_ ≠ (u14 : Value).ownBlock)) (by (with_reducible repeat (first | apply Kd.R_alloc | apply Kd.R_drewN | apply Kd.R_drew)); exact Kd.R_mono HO_9.out (fun _ hk => ⟨⟨hk.1, hk.2.1⟩, hk.2.2⟩)) hg hat); have n1_ := Aside0.mk (Kd.R_after (ok := (fun k_ => some k_ ≠ (.slice (some ad459) t439.length co19 : Value).ownBlock ∧ some k_ ≠ (u14 : Value).ownBlock ∧ some k_ ≠ (.slice (some ad459) t439.length co19 : Value).ownBlock)) (by (with_reducible repeat (first | apply Kd.R_alloc | apply Kd.R_drewN | apply Kd.R_drew)); exact Kd.R_mono HO_10.out (fun _ hk => ⟨⟨hk.1, ⟨hk.2.1, hk.2.2.2⟩⟩, hk.2.2.1⟩)) hg hat); have n2_ := Aside0.mk (Kd.R_over' (by (with_reducible repeat (first | apply Kd.R_alloc | apply Kd.R_drewN | apply Kd.R_drew)); exact HO_11.out) (Kd.R_typed (by (with_reducible repeat (first | apply Kd.R_alloc | apply Kd.R_drewN | apply Kd.R_drew)); exact HO_17.out)) (by decide) hg); have n3_ := Aside0.mk (Kd.R_after (ok := (fun k_ => some k_ ≠ (.slice (some ad459) t439.length co19 : Value).ownBlock ∧ some k_ ≠ (v443 : Value).ownBlock ∧ some k_ ≠ (.slice (some ad459) t439.length co19 : Value).ownBlock)) (by (with_reducible repeat (first | apply Kd.R_alloc | apply Kd.R_drewN | apply Kd.R_drew)); exact Kd.R_mono HO_14.out (fun _ hk => ⟨⟨hk.1, ⟨hk.2.1, hk.2.2.2⟩⟩, hk.2.2.1⟩)) hg hat); have n4_ := Aside0.mk (Kd.R_after (ok := (fun k_ => some k_ ≠ (v443 : Value).ownBlock ∧ some k_ ≠ (u14 : Value).ownBlock)) (by (with_reducible repeat (first | apply Kd.R_alloc | apply Kd.R_drewN | apply Kd.R_drew)); exact Kd.R_mono HO_60.out (fun _ hk => ⟨⟨hk.1, hk.2.1⟩, hk.2.2⟩)) hg hat); have n5_ := Aside0.mk (hb); have n6_ := Aside0.mk (ho); clear HO_9; clear HO_10; clear HO_11; clear HO_14; clear HO_60; clear HB; clear HO_17; have HO_9 := n0_; have HO_10 := n1_; have HO_11 := n2_; have HO_14 := n3_; have HO_60 := n4_; have HB := n5_; have HO462 := n6_; clear n0_ n1_ n2_ n3_ n4_ n5_ n6_; clear ho hb hg hat)))
                              go_roundg k3
                              case measure => have := HJ4.out; have := HK2.out; have := HK3.out; omega
                              case rel => exact ⟨(y460), (wrap64 (x62_3 + 1)), (by first | rfl | (simp; done) | (simp [*]; done)), H', ⟨by have := HJ4.out; have := HK2.out; have := HK3.out; omega⟩, ⟨by (with_reducible repeat (first | apply Kd.R_alloc | apply Kd.R_drewN | apply Kd.R_drew)); exact Kd.R_mono HO_9.out (fun _ hk => ⟨hk.1.1, ⟨hk.1.2, hk.2⟩⟩)⟩, ⟨by (with_reducible repeat (first | apply Kd.R_alloc | apply Kd.R_drewN | apply Kd.R_drew)); exact Kd.R_mono HO_10.out (fun _ hk => ⟨hk.1.1, ⟨hk.1.2.1, ⟨hk.2, hk.1.2.2⟩⟩⟩)⟩, ⟨by (with_reducible repeat (first | apply Kd.R_alloc | apply Kd.R_drewN | apply Kd.R_drew)); exact HO_11.out⟩, ⟨by (with_reducible repeat (first | apply Kd.R_alloc | apply Kd.R_drewN | apply Kd.R_drew)); exact Kd.R_mono HO_14.out (fun _ hk => ⟨hk.1.1, ⟨hk.1.2.1, ⟨hk.2, hk.1.2.2⟩⟩⟩)⟩, ⟨by (with_reducible repeat (first | apply Kd.R_alloc | apply Kd.R_drewN | apply Kd.R_drew)); exact HO462.out⟩, ⟨by (with_reducible repeat (first | apply Kd.R_alloc | apply Kd.R_drewN | apply Kd.R_drew)); exact Kd.R_mono HO_60.out (fun _ hk => ⟨hk.1.1, ⟨hk.1.2, hk.2⟩⟩)⟩, ⟨by repeat (first | (with_reducible first | exact HB.out | apply below_alloc | apply pw_below_drewN | apply below_drew1) | exact HB.out)⟩⟩
                            · rw [if_neg c35] at H
                              exact absurd H (by simp)
                        · rw [if_neg c33] at H
                          exact absurd H (by simp)
                      · rw [if_neg c32] at H
                        exact absurd H (by simp)
                    · rw [if_neg c31] at H
                      have c31b0 : decide (x62_3 < (t439.length : Int)) = false := decide_eq_false c31
                      clear c31
                      have HC37 := Aside0.mk H
                      clear H
                      go_upto_region 20 with (fail)
                      repeat (go_quiet (fail); go_upto_region 20 with (fail))
                      go_cut [121] (fun v121 wc => ∃ (kq : Nat) (x121_36 : Bool), v121 = .bool x121_36 ∧ Aside0 (oriellaw03_PackSets.j3 kq l0 a3 t439 t442 y448 l0 l1 x121_36 = some r) ∧ Aside0 (kq ≤ k3) ∧ Aside0 (Kd.R (Kd.int .i64) 3 wc w.heap.size (fun k_ => some k_ ≠ (v443 : Value).ownBlock) (.slice Ao19 t439.length co19) t439) ∧ Aside0 (Kd.R (Kd.int .i64) 3 wc w.heap.size (fun k_ => some k_ ≠ ((.slice Ao19 t439.length co19) : Value).ownBlock) v443 t442) ∧ Aside0 (Kd.R (Kd.int .u64) 23 wc w.heap.size (fun _ => True) v449 y448) ∧ Aside0 (Below w.heap.size w wc))
                      case first =>
                        have H := HC37.out
                        clear HC37
                        replace H := Option.bind_eq_some_iff.mp H
                        obtain ⟨t463, A380, H⟩ := H
                        replace H : ((oriellaw01_Ints.f k3 t463 t439).bind fun t466 => (if t466 = true then ((pack_Set_Len.f k3 l0).bind fun t467 => (if t467 = (t439.length : Int) then ((pack_Set_Has.f l0 a3).bind fun t468 => ((orielref03_In.f k3 t439 a3).bind fun t469 => (if (t468 != t469) = true then (none) else ((pack_Set_Rest.f k3 l0 l1).bind fun t470 => ((pack_Set_List.f k3 t470).bind fun t473 => ((oriellaw01_Ints.f k3 t473 x14_2).bind fun t476 => (if t476 = true then ((pack_Set_Without.f k3 l0 a3).bind fun t477 => ((pack_Set_List.f k3 t477).bind fun t480 => ((oriellaw01_Ints.f k3 t480 x17_3).bind fun t483 => (if t483 = true then ((pack_Of.f k3 l2).bind fun t484 => ((pack_Set_List.f k3 t484).bind fun t487 => ((orielref03_Rising.f k3 l2).bind fun t490 => ((oriellaw01_Ints.f k3 t487 t490).bind fun t493 => (oriellaw03_PackSets.j3 k3 l0 a3 t439 t442 y448 l0 l1 (!t493)))))) else (none))))) else (none)))))))) else (none))) else (none))) = some r := H
                        have A38 := Aside0.mk A380
                        clear A380
                        replace H := Option.bind_eq_some_iff.mp H
                        obtain ⟨t466, A390, H⟩ := H
                        replace H : (if t466 = true then ((pack_Set_Len.f k3 l0).bind fun t467 => (if t467 = (t439.length : Int) then ((pack_Set_Has.f l0 a3).bind fun t468 => ((orielref03_In.f k3 t439 a3).bind fun t469 => (if (t468 != t469) = true then (none) else ((pack_Set_Rest.f k3 l0 l1).bind fun t470 => ((pack_Set_List.f k3 t470).bind fun t473 => ((oriellaw01_Ints.f k3 t473 x14_2).bind fun t476 => (if t476 = true then ((pack_Set_Without.f k3 l0 a3).bind fun t477 => ((pack_Set_List.f k3 t477).bind fun t480 => ((oriellaw01_Ints.f k3 t480 x17_3).bind fun t483 => (if t483 = true then ((pack_Of.f k3 l2).bind fun t484 => ((pack_Set_List.f k3 t484).bind fun t487 => ((orielref03_Rising.f k3 l2).bind fun t490 => ((oriellaw01_Ints.f k3 t487 t490).bind fun t493 => (oriellaw03_PackSets.j3 k3 l0 a3 t439 t442 y448 l0 l1 (!t493)))))) else (none))))) else (none)))))))) else (none))) else (none)) = some r := H
                        have A39 := Aside0.mk A390
                        clear A390
                        by_cases c40 : t466 = true
                        · subst c40
                          have H1 : ((pack_Set_Len.f k3 l0).bind fun t467 => (if t467 = (t439.length : Int) then ((pack_Set_Has.f l0 a3).bind fun t468 => ((orielref03_In.f k3 t439 a3).bind fun t469 => (if (t468 != t469) = true then (none) else ((pack_Set_Rest.f k3 l0 l1).bind fun t470 => ((pack_Set_List.f k3 t470).bind fun t473 => ((oriellaw01_Ints.f k3 t473 x14_2).bind fun t476 => (if t476 = true then ((pack_Set_Without.f k3 l0 a3).bind fun t477 => ((pack_Set_List.f k3 t477).bind fun t480 => ((oriellaw01_Ints.f k3 t480 x17_3).bind fun t483 => (if t483 = true then ((pack_Of.f k3 l2).bind fun t484 => ((pack_Set_List.f k3 t484).bind fun t487 => ((orielref03_Rising.f k3 l2).bind fun t490 => ((oriellaw01_Ints.f k3 t487 t490).bind fun t493 => (oriellaw03_PackSets.j3 k3 l0 a3 t439 t442 y448 l0 l1 (!t493)))))) else (none))))) else (none)))))))) else (none))) = some r := by rw [if_pos rfl] at H; exact H
                          clear H
                          have H := H1
                          clear H1
                          replace H := Option.bind_eq_some_iff.mp H
                          obtain ⟨t467, A410, H⟩ := H
                          replace H : (if t467 = (t439.length : Int) then ((pack_Set_Has.f l0 a3).bind fun t468 => ((orielref03_In.f k3 t439 a3).bind fun t469 => (if (t468 != t469) = true then (none) else ((pack_Set_Rest.f k3 l0 l1).bind fun t470 => ((pack_Set_List.f k3 t470).bind fun t473 => ((oriellaw01_Ints.f k3 t473 x14_2).bind fun t476 => (if t476 = true then ((pack_Set_Without.f k3 l0 a3).bind fun t477 => ((pack_Set_List.f k3 t477).bind fun t480 => ((oriellaw01_Ints.f k3 t480 x17_3).bind fun t483 => (if t483 = true then ((pack_Of.f k3 l2).bind fun t484 => ((pack_Set_List.f k3 t484).bind fun t487 => ((orielref03_Rising.f k3 l2).bind fun t490 => ((oriellaw01_Ints.f k3 t487 t490).bind fun t493 => (oriellaw03_PackSets.j3 k3 l0 a3 t439 t442 y448 l0 l1 (!t493)))))) else (none))))) else (none)))))))) else (none)) = some r := H
                          have A41 := Aside0.mk A410
                          clear A410
                          by_cases c42 : t467 = (t439.length : Int)
                          · rw [if_pos c42] at H
                            have c42b0 : (t467 == (t439.length : Int)) = true := beq_iff_eq.mpr c42
                            have c42b1 : (t467 != (t439.length : Int)) = false := bne_eq_false_iff_eq.mpr c42
                            clear c42
                            (first | rw [c42b0] | (simp only [i64_w, i32_w]; rw [c42b0]) | skip)
                            replace H := Option.bind_eq_some_iff.mp H
                            obtain ⟨t468, A430, H⟩ := H
                            replace H : ((orielref03_In.f k3 t439 a3).bind fun t469 => (if (t468 != t469) = true then (none) else ((pack_Set_Rest.f k3 l0 l1).bind fun t470 => ((pack_Set_List.f k3 t470).bind fun t473 => ((oriellaw01_Ints.f k3 t473 x14_2).bind fun t476 => (if t476 = true then ((pack_Set_Without.f k3 l0 a3).bind fun t477 => ((pack_Set_List.f k3 t477).bind fun t480 => ((oriellaw01_Ints.f k3 t480 x17_3).bind fun t483 => (if t483 = true then ((pack_Of.f k3 l2).bind fun t484 => ((pack_Set_List.f k3 t484).bind fun t487 => ((orielref03_Rising.f k3 l2).bind fun t490 => ((oriellaw01_Ints.f k3 t487 t490).bind fun t493 => (oriellaw03_PackSets.j3 k3 l0 a3 t439 t442 y448 l0 l1 (!t493)))))) else (none))))) else (none))))))) = some r := H
                            have A43 := Aside0.mk A430
                            clear A430
                            replace H := Option.bind_eq_some_iff.mp H
                            obtain ⟨t469, A440, H⟩ := H
                            replace H : (if (t468 != t469) = true then (none) else ((pack_Set_Rest.f k3 l0 l1).bind fun t470 => ((pack_Set_List.f k3 t470).bind fun t473 => ((oriellaw01_Ints.f k3 t473 x14_2).bind fun t476 => (if t476 = true then ((pack_Set_Without.f k3 l0 a3).bind fun t477 => ((pack_Set_List.f k3 t477).bind fun t480 => ((oriellaw01_Ints.f k3 t480 x17_3).bind fun t483 => (if t483 = true then ((pack_Of.f k3 l2).bind fun t484 => ((pack_Set_List.f k3 t484).bind fun t487 => ((orielref03_Rising.f k3 l2).bind fun t490 => ((oriellaw01_Ints.f k3 t487 t490).bind fun t493 => (oriellaw03_PackSets.j3 k3 l0 a3 t439 t442 y448 l0 l1 (!t493)))))) else (none))))) else (none)))))) = some r := H
                            have A44 := Aside0.mk A440
                            clear A440
                            by_cases c45 : (t468 != t469) = true
                            · rw [if_pos c45] at H
                              exact absurd H (by simp)
                            · rw [if_neg c45] at H
                              have c45b0 : (t468 != t469) = false := by simpa using c45
                              (try (have c45b1 : decide (t468 = t469) = true := by simpa using c45))
                              (try (have c45b2 : (t468 == t469) = true := by simpa using c45))
                              clear c45
                              replace H := Option.bind_eq_some_iff.mp H
                              obtain ⟨t470, A460, H⟩ := H
                              replace H : ((pack_Set_List.f k3 t470).bind fun t473 => ((oriellaw01_Ints.f k3 t473 x14_2).bind fun t476 => (if t476 = true then ((pack_Set_Without.f k3 l0 a3).bind fun t477 => ((pack_Set_List.f k3 t477).bind fun t480 => ((oriellaw01_Ints.f k3 t480 x17_3).bind fun t483 => (if t483 = true then ((pack_Of.f k3 l2).bind fun t484 => ((pack_Set_List.f k3 t484).bind fun t487 => ((orielref03_Rising.f k3 l2).bind fun t490 => ((oriellaw01_Ints.f k3 t487 t490).bind fun t493 => (oriellaw03_PackSets.j3 k3 l0 a3 t439 t442 y448 l0 l1 (!t493)))))) else (none))))) else (none)))) = some r := H
                              have A46 := Aside0.mk A460
                              clear A460
                              replace H := Option.bind_eq_some_iff.mp H
                              obtain ⟨t473, A470, H⟩ := H
                              replace H : ((oriellaw01_Ints.f k3 t473 x14_2).bind fun t476 => (if t476 = true then ((pack_Set_Without.f k3 l0 a3).bind fun t477 => ((pack_Set_List.f k3 t477).bind fun t480 => ((oriellaw01_Ints.f k3 t480 x17_3).bind fun t483 => (if t483 = true then ((pack_Of.f k3 l2).bind fun t484 => ((pack_Set_List.f k3 t484).bind fun t487 => ((orielref03_Rising.f k3 l2).bind fun t490 => ((oriellaw01_Ints.f k3 t487 t490).bind fun t493 => (oriellaw03_PackSets.j3 k3 l0 a3 t439 t442 y448 l0 l1 (!t493)))))) else (none))))) else (none))) = some r := H
                              have A47 := Aside0.mk A470
                              clear A470
                              replace H := Option.bind_eq_some_iff.mp H
                              obtain ⟨t476, A480, H⟩ := H
                              replace H : (if t476 = true then ((pack_Set_Without.f k3 l0 a3).bind fun t477 => ((pack_Set_List.f k3 t477).bind fun t480 => ((oriellaw01_Ints.f k3 t480 x17_3).bind fun t483 => (if t483 = true then ((pack_Of.f k3 l2).bind fun t484 => ((pack_Set_List.f k3 t484).bind fun t487 => ((orielref03_Rising.f k3 l2).bind fun t490 => ((oriellaw01_Ints.f k3 t487 t490).bind fun t493 => (oriellaw03_PackSets.j3 k3 l0 a3 t439 t442 y448 l0 l1 (!t493)))))) else (none))))) else (none)) = some r := H
                              have A48 := Aside0.mk A480
                              clear A480
                              by_cases c49 : t476 = true
                              · subst c49
                                have H1 : ((pack_Set_Without.f k3 l0 a3).bind fun t477 => ((pack_Set_List.f k3 t477).bind fun t480 => ((oriellaw01_Ints.f k3 t480 x17_3).bind fun t483 => (if t483 = true then ((pack_Of.f k3 l2).bind fun t484 => ((pack_Set_List.f k3 t484).bind fun t487 => ((orielref03_Rising.f k3 l2).bind fun t490 => ((oriellaw01_Ints.f k3 t487 t490).bind fun t493 => (oriellaw03_PackSets.j3 k3 l0 a3 t439 t442 y448 l0 l1 (!t493)))))) else (none))))) = some r := by rw [if_pos rfl] at H; exact H
                                clear H
                                have H := H1
                                clear H1
                                replace H := Option.bind_eq_some_iff.mp H
                                obtain ⟨t477, A500, H⟩ := H
                                replace H : ((pack_Set_List.f k3 t477).bind fun t480 => ((oriellaw01_Ints.f k3 t480 x17_3).bind fun t483 => (if t483 = true then ((pack_Of.f k3 l2).bind fun t484 => ((pack_Set_List.f k3 t484).bind fun t487 => ((orielref03_Rising.f k3 l2).bind fun t490 => ((oriellaw01_Ints.f k3 t487 t490).bind fun t493 => (oriellaw03_PackSets.j3 k3 l0 a3 t439 t442 y448 l0 l1 (!t493)))))) else (none)))) = some r := H
                                have A50 := Aside0.mk A500
                                clear A500
                                replace H := Option.bind_eq_some_iff.mp H
                                obtain ⟨t480, A510, H⟩ := H
                                replace H : ((oriellaw01_Ints.f k3 t480 x17_3).bind fun t483 => (if t483 = true then ((pack_Of.f k3 l2).bind fun t484 => ((pack_Set_List.f k3 t484).bind fun t487 => ((orielref03_Rising.f k3 l2).bind fun t490 => ((oriellaw01_Ints.f k3 t487 t490).bind fun t493 => (oriellaw03_PackSets.j3 k3 l0 a3 t439 t442 y448 l0 l1 (!t493)))))) else (none))) = some r := H
                                have A51 := Aside0.mk A510
                                clear A510
                                replace H := Option.bind_eq_some_iff.mp H
                                obtain ⟨t483, A520, H⟩ := H
                                replace H : (if t483 = true then ((pack_Of.f k3 l2).bind fun t484 => ((pack_Set_List.f k3 t484).bind fun t487 => ((orielref03_Rising.f k3 l2).bind fun t490 => ((oriellaw01_Ints.f k3 t487 t490).bind fun t493 => (oriellaw03_PackSets.j3 k3 l0 a3 t439 t442 y448 l0 l1 (!t493)))))) else (none)) = some r := H
                                have A52 := Aside0.mk A520
                                clear A520
                                by_cases c53 : t483 = true
                                · subst c53
                                  have H1 : ((pack_Of.f k3 l2).bind fun t484 => ((pack_Set_List.f k3 t484).bind fun t487 => ((orielref03_Rising.f k3 l2).bind fun t490 => ((oriellaw01_Ints.f k3 t487 t490).bind fun t493 => (oriellaw03_PackSets.j3 k3 l0 a3 t439 t442 y448 l0 l1 (!t493)))))) = some r := by rw [if_pos rfl] at H; exact H
                                  clear H
                                  have H := H1
                                  clear H1
                                  replace H := Option.bind_eq_some_iff.mp H
                                  obtain ⟨t484, A540, H⟩ := H
                                  replace H : ((pack_Set_List.f k3 t484).bind fun t487 => ((orielref03_Rising.f k3 l2).bind fun t490 => ((oriellaw01_Ints.f k3 t487 t490).bind fun t493 => (oriellaw03_PackSets.j3 k3 l0 a3 t439 t442 y448 l0 l1 (!t493))))) = some r := H
                                  have A54 := Aside0.mk A540
                                  clear A540
                                  replace H := Option.bind_eq_some_iff.mp H
                                  obtain ⟨t487, A550, H⟩ := H
                                  replace H : ((orielref03_Rising.f k3 l2).bind fun t490 => ((oriellaw01_Ints.f k3 t487 t490).bind fun t493 => (oriellaw03_PackSets.j3 k3 l0 a3 t439 t442 y448 l0 l1 (!t493)))) = some r := H
                                  have A55 := Aside0.mk A550
                                  clear A550
                                  replace H := Option.bind_eq_some_iff.mp H
                                  obtain ⟨t490, A560, H⟩ := H
                                  replace H : ((oriellaw01_Ints.f k3 t487 t490).bind fun t493 => (oriellaw03_PackSets.j3 k3 l0 a3 t439 t442 y448 l0 l1 (!t493))) = some r := H
                                  have A56 := Aside0.mk A560
                                  clear A560
                                  replace H := Option.bind_eq_some_iff.mp H
                                  obtain ⟨t493, A570, H⟩ := H
                                  replace H : (oriellaw03_PackSets.j3 k3 l0 a3 t439 t442 y448 l0 l1 (!t493)) = some r := H
                                  have A57 := Aside0.mk A570
                                  clear A570
                                  have H' := Aside0.mk H
                                  clear H
                                  go_wp2_with (first | (go_at_call 24; (with_reducible refine (pack_Set_List.calls k3 _ _ l0 t463 _ ?side1 ?side2 ?sideT A38.out).mono ?_); (case sideT => first | exact HT.out | exact TabW.below HT.out (by repeat (first | (with_reducible first | exact HB.out | apply below_alloc | apply pw_below_drewN | apply below_drew1) | exact HB.out))); (case side1 => repeat (first | exact (Kd.C_below HR0.out HB.out) | (with_reducible refine Kd.C_alloc ?_ _) | (with_reducible refine Kd.C_drewN ?_ _) | (with_reducible refine Kd.C_drew ?_))); (case side2 => exact HC0.out); rintro e w58 ⟨v464, rfl, ho0, hb⟩; have n0_ := Aside0.mk (Kd.R_elder' (by (with_reducible repeat (first | apply Kd.R_alloc | apply Kd.R_drewN | apply Kd.R_drew)); exact HO_9.out) (Kd.R_base ho0) hb); have n1_ := Aside0.mk (Kd.R_elder' (by (with_reducible repeat (first | apply Kd.R_alloc | apply Kd.R_drewN | apply Kd.R_drew)); exact HO_10.out) (Kd.R_base ho0) hb); have n2_ := Aside0.mk (Kd.R_below (by (with_reducible repeat (first | apply Kd.R_alloc | apply Kd.R_drewN | apply Kd.R_drew)); exact HO_11.out) hb); have n3_ := Aside0.mk (Kd.R_elder' (by (with_reducible repeat (first | apply Kd.R_alloc | apply Kd.R_drewN | apply Kd.R_drew)); exact HO_14.out) (Kd.R_base ho0) hb); have n4_ := Aside0.mk (Kd.R_elder' (by (with_reducible repeat (first | apply Kd.R_alloc | apply Kd.R_drewN | apply Kd.R_drew)); exact HO_17.out) (Kd.R_base ho0) hb); have n5_ := Aside0.mk (Kd.R_elder' (by (with_reducible repeat (first | apply Kd.R_alloc | apply Kd.R_drewN | apply Kd.R_drew)); exact HO_60.out) (Kd.R_base ho0) hb); have n6_ := Aside0.mk (Kd.R_lower (Kd.R_new' (Kd.R_new' (Kd.R_new' (Kd.R_new' (Kd.R_new' ho0 (Kd.R_lt (by (with_reducible repeat (first | apply Kd.R_alloc | apply Kd.R_drewN | apply Kd.R_drew)); exact HO_9.out))) (Kd.R_lt (by (with_reducible repeat (first | apply Kd.R_alloc | apply Kd.R_drewN | apply Kd.R_drew)); exact HO_10.out))) (Kd.R_lt (by (with_reducible repeat (first | apply Kd.R_alloc | apply Kd.R_drewN | apply Kd.R_drew)); exact HO_14.out))) (Kd.R_lt (by (with_reducible repeat (first | apply Kd.R_alloc | apply Kd.R_drewN | apply Kd.R_drew)); exact HO_17.out))) (Kd.R_lt (by (with_reducible repeat (first | apply Kd.R_alloc | apply Kd.R_drewN | apply Kd.R_drew)); exact HO_60.out))) (below_size (by repeat (first | (with_reducible first | exact HB.out | apply below_alloc | apply pw_below_drewN | apply below_drew1) | exact HB.out)))); have n7_ := Aside0.mk (below_step (by repeat (first | (with_reducible first | exact HB.out | apply below_alloc | apply pw_below_drewN | apply below_drew1) | exact HB.out)) hb); clear HO_9; clear HO_10; clear HO_11; clear HO_14; clear HO_17; clear HO_60; clear HB; have HO_9 := n0_; have HO_10 := n1_; have HO_11 := n2_; have HO_14 := n3_; have HO_17 := n4_; have HO_60 := n5_; have HO465 := n6_; have HB := n7_; clear n0_ n1_ n2_ n3_ n4_ n5_ n6_ n7_; (try clear hb); (try clear hb2); (try clear hk); (try clear hi); (try clear ho0); obtain ⟨Ao59, co59, eo59⟩ := Kd.R_slice HO465.out; subst eo59) | (go_at_call 22; (with_reducible refine (oriellaw01_Ints.calls k3 _ _ t463 _ _ t439 true _ ?side1 ?side2 ?side3 ?side4 A39.out).mono ?_); (case side1 => repeat (first | exact (Kd.R_reads' HO465.out).2.2 | (with_reducible refine Kd.C_alloc ?_ _) | (with_reducible refine Kd.C_drewN ?_ _) | (with_reducible refine Kd.C_drew ?_))); (case side2 => exact (Kd.R_reads' HO465.out).2.1); (case side3 => repeat (first | exact (Kd.R_reads' HO_9.out).2.2 | (with_reducible refine Kd.C_alloc ?_ _) | (with_reducible refine Kd.C_drewN ?_ _) | (with_reducible refine Kd.C_drew ?_))); (case side4 => exact (Kd.R_reads' HO_9.out).2.1); rintro e w' ⟨rfl, ⟨nd, rfl⟩⟩; (try first | exact ⟨rfl, _, World.drewN_drewN _ _ _⟩ | exact ⟨rfl, _, Eq.trans (World.drewN_drewN _ _ _) (congrArg (World.drewN _) (Nat.add_assoc _ _ _))⟩)) | (go_at_call 26; (with_reducible refine (pack_Set_Len.calls k3 _ _ l0 t467 _ ?side1 ?side2 A41.out).mono ?_); (case side1 => repeat (first | exact (Kd.C_below HR0.out (by repeat (first | (with_reducible first | exact HB.out | apply below_alloc | apply pw_below_drewN | apply below_drew1) | exact HB.out))) | (with_reducible refine Kd.C_alloc ?_ _) | (with_reducible refine Kd.C_drewN ?_ _) | (with_reducible refine Kd.C_drew ?_))); (case side2 => exact HC0.out); rintro e w60 ⟨rfl, hb⟩; have n0_ := Aside0.mk (Kd.R_below (by (with_reducible repeat (first | apply Kd.R_alloc | apply Kd.R_drewN | apply Kd.R_drew)); exact HO_9.out) hb); have n1_ := Aside0.mk (Kd.R_below (by (with_reducible repeat (first | apply Kd.R_alloc | apply Kd.R_drewN | apply Kd.R_drew)); exact HO_10.out) hb); have n2_ := Aside0.mk (Kd.R_below (by (with_reducible repeat (first | apply Kd.R_alloc | apply Kd.R_drewN | apply Kd.R_drew)); exact HO_11.out) hb); have n3_ := Aside0.mk (Kd.R_below (by (with_reducible repeat (first | apply Kd.R_alloc | apply Kd.R_drewN | apply Kd.R_drew)); exact HO_14.out) hb); have n4_ := Aside0.mk (Kd.R_below (by (with_reducible repeat (first | apply Kd.R_alloc | apply Kd.R_drewN | apply Kd.R_drew)); exact HO_17.out) hb); have n5_ := Aside0.mk (Kd.R_below (by (with_reducible repeat (first | apply Kd.R_alloc | apply Kd.R_drewN | apply Kd.R_drew)); exact HO_60.out) hb); have n6_ := Aside0.mk (Kd.R_below (by (with_reducible repeat (first | apply Kd.R_alloc | apply Kd.R_drewN | apply Kd.R_drew)); exact HO465.out) hb); have n7_ := Aside0.mk (below_step (by repeat (first | (with_reducible first | exact HB.out | apply below_alloc | apply pw_below_drewN | apply below_drew1) | exact HB.out)) hb); clear HO_9; clear HO_10; clear HO_11; clear HO_14; clear HO_17; clear HO_60; clear HO465; clear HB; have HO_9 := n0_; have HO_10 := n1_; have HO_11 := n2_; have HO_14 := n3_; have HO_17 := n4_; have HO_60 := n5_; have HO465 := n6_; have HB := n7_; clear n0_ n1_ n2_ n3_ n4_ n5_ n6_ n7_; (try clear hb); (try clear hb2); (try clear hk); (try clear hi)) | (go_at_call 29; (with_reducible refine (pack_Set_Has.calls _ _ l0 a3 t468 _ ?side1 ?side2 A43.out).mono ?_); (case side1 => repeat (first | exact (Kd.C_below HR0.out HB.out) | (with_reducible refine Kd.C_alloc ?_ _) | (with_reducible refine Kd.C_drewN ?_ _) | (with_reducible refine Kd.C_drew ?_))); (case side2 => exact HC0.out); rintro e w' ⟨rfl, ⟨nd, rfl⟩⟩; (try first | exact ⟨rfl, _, World.drewN_drewN _ _ _⟩ | exact ⟨rfl, _, Eq.trans (World.drewN_drewN _ _ _) (congrArg (World.drewN _) (Nat.add_assoc _ _ _))⟩)) | (go_at_call 28; (with_reducible refine (orielref03_In.calls k3 _ _ t439 a3 t469 _ ?side1 ?side2 A44.out).mono ?_); (case side1 => repeat (first | exact (Kd.R_reads' HO_9.out).2.2 | (with_reducible refine Kd.C_alloc ?_ _) | (with_reducible refine Kd.C_drewN ?_ _) | (with_reducible refine Kd.C_drew ?_))); (case side2 => exact (Kd.R_reads' HO_9.out).2.1); rintro e w' ⟨rfl, ⟨nd, rfl⟩⟩; (try first | exact ⟨rfl, _, World.drewN_drewN _ _ _⟩ | exact ⟨rfl, _, Eq.trans (World.drewN_drewN _ _ _) (congrArg (World.drewN _) (Nat.add_assoc _ _ _))⟩)) | (go_at_call 25; (with_reducible refine (pack_Set_Rest.calls k3 _ _ l0 _ _ l1 t470 _ ?side1 ?side2 ?side3 ?side4 A46.out).mono ?_); (case side1 => repeat (first | exact (Kd.C_below HR0.out (by repeat (first | (with_reducible first | exact HB.out | apply below_alloc | apply pw_below_drewN | apply below_drew1) | exact HB.out))) | (with_reducible refine Kd.C_alloc ?_ _) | (with_reducible refine Kd.C_drewN ?_ _) | (with_reducible refine Kd.C_drew ?_))); (case side2 => exact HC0.out); (case side3 => repeat (first | exact (Kd.C_below HR1.out (by repeat (first | (with_reducible first | exact HB.out | apply below_alloc | apply pw_below_drewN | apply below_drew1) | exact HB.out))) | (with_reducible refine Kd.C_alloc ?_ _) | (with_reducible refine Kd.C_drewN ?_ _) | (with_reducible refine Kd.C_drew ?_))); (case side4 => exact HC1.out); rintro e w61 ⟨v471, rfl, ho0, hb⟩; have n0_ := Aside0.mk (Kd.R_below (by (with_reducible repeat (first | apply Kd.R_alloc | apply Kd.R_drewN | apply Kd.R_drew)); exact HO_9.out) hb); have n1_ := Aside0.mk (Kd.R_below (by (with_reducible repeat (first | apply Kd.R_alloc | apply Kd.R_drewN | apply Kd.R_drew)); exact HO_10.out) hb); have n2_ := Aside0.mk (Kd.R_elder' (by (with_reducible repeat (first | apply Kd.R_alloc | apply Kd.R_drewN | apply Kd.R_drew)); exact HO_11.out) (Kd.R_base ho0) hb); have n3_ := Aside0.mk (Kd.R_below (by (with_reducible repeat (first | apply Kd.R_alloc | apply Kd.R_drewN | apply Kd.R_drew)); exact HO_14.out) hb); have n4_ := Aside0.mk (Kd.R_below (by (with_reducible repeat (first | apply Kd.R_alloc | apply Kd.R_drewN | apply Kd.R_drew)); exact HO_17.out) hb); have n5_ := Aside0.mk (Kd.R_below (by (with_reducible repeat (first | apply Kd.R_alloc | apply Kd.R_drewN | apply Kd.R_drew)); exact HO_60.out) hb); have n6_ := Aside0.mk (Kd.R_below (by (with_reducible repeat (first | apply Kd.R_alloc | apply Kd.R_drewN | apply Kd.R_drew)); exact HO465.out) hb); have n7_ := Aside0.mk (Kd.R_lower (Kd.R_new' ho0 (Kd.R_lt (by (with_reducible repeat (first | apply Kd.R_alloc | apply Kd.R_drewN | apply Kd.R_drew)); exact HO_11.out))) (below_size (by repeat (first | (with_reducible first | exact HB.out | apply below_alloc | apply pw_below_drewN | apply below_drew1) | exact HB.out)))); have n8_ := Aside0.mk (below_step (by repeat (first | (with_reducible first | exact HB.out | apply below_alloc | apply pw_below_drewN | apply below_drew1) | exact HB.out)) hb); clear HO_9; clear HO_10; clear HO_11; clear HO_14; clear HO_17; clear HO_60; clear HO465; clear HB; have HO_9 := n0_; have HO_10 := n1_; have HO_11 := n2_; have HO_14 := n3_; have HO_17 := n4_; have HO_60 := n5_; have HO465 := n6_; have HO472 := n7_; have HB := n8_; clear n0_ n1_ n2_ n3_ n4_ n5_ n6_ n7_ n8_; (try clear hb); (try clear hb2); (try clear hk); (try clear hi); (try clear ho0); obtain ⟨Ao62, co62, eo62⟩ := Kd.R_slice HO472.out; subst eo62) | (go_at_call 24; (with_reducible refine (pack_Set_List.calls k3 _ _ t470 t473 _ ?side1 ?side2 ?sideT A47.out).mono ?_); (case sideT => first | exact HT.out | exact TabW.below HT.out (by repeat (first | (with_reducible first | exact HB.out | apply below_alloc | apply pw_below_drewN | apply below_drew1) | exact HB.out))); (case side1 => repeat (first | exact (Kd.R_reads' HO472.out).2.2 | (with_reducible refine Kd.C_alloc ?_ _) | (with_reducible refine Kd.C_drewN ?_ _) | (with_reducible refine Kd.C_drew ?_))); (case side2 => exact (Kd.R_reads' HO472.out).2.1); rintro e w63 ⟨v474, rfl, ho0, hb⟩; have n0_ := Aside0.mk (Kd.R_elder' (by (with_reducible repeat (first | apply Kd.R_alloc | apply Kd.R_drewN | apply Kd.R_drew)); exact HO_9.out) (Kd.R_base ho0) hb); have n1_ := Aside0.mk (Kd.R_elder' (by (with_reducible repeat (first | apply Kd.R_alloc | apply Kd.R_drewN | apply Kd.R_drew)); exact HO_10.out) (Kd.R_base ho0) hb); have n2_ := Aside0.mk (Kd.R_below (by (with_reducible repeat (first | apply Kd.R_alloc | apply Kd.R_drewN | apply Kd.R_drew)); exact HO_11.out) hb); have n3_ := Aside0.mk (Kd.R_elder' (by (with_reducible repeat (first | apply Kd.R_alloc | apply Kd.R_drewN | apply Kd.R_drew)); exact HO_14.out) (Kd.R_base ho0) hb); have n4_ := Aside0.mk (Kd.R_elder' (by (with_reducible repeat (first | apply Kd.R_alloc | apply Kd.R_drewN | apply Kd.R_drew)); exact HO_17.out) (Kd.R_base ho0) hb); have n5_ := Aside0.mk (Kd.R_elder' (by (with_reducible repeat (first | apply Kd.R_alloc | apply Kd.R_drewN | apply Kd.R_drew)); exact HO_60.out) (Kd.R_base ho0) hb); have n6_ := Aside0.mk (Kd.R_elder' (by (with_reducible repeat (first | apply Kd.R_alloc | apply Kd.R_drewN | apply Kd.R_drew)); exact HO465.out) (Kd.R_base ho0) hb); have n7_ := Aside0.mk (Kd.R_below (by (with_reducible repeat (first | apply Kd.R_alloc | apply Kd.R_drewN | apply Kd.R_drew)); exact HO472.out) hb); have n8_ := Aside0.mk (Kd.R_lower (Kd.R_new' (Kd.R_new' (Kd.R_new' (Kd.R_new' (Kd.R_new' (Kd.R_new' ho0 (Kd.R_lt (by (with_reducible repeat (first | apply Kd.R_alloc | apply Kd.R_drewN | apply Kd.R_drew)); exact HO_9.out))) (Kd.R_lt (by (with_reducible repeat (first | apply Kd.R_alloc | apply Kd.R_drewN | apply Kd.R_drew)); exact HO_10.out))) (Kd.R_lt (by (with_reducible repeat (first | apply Kd.R_alloc | apply Kd.R_drewN | apply Kd.R_drew)); exact HO_14.out))) (Kd.R_lt (by (with_reducible repeat (first | apply Kd.R_alloc | apply Kd.R_drewN | apply Kd.R_drew)); exact HO_17.out))) (Kd.R_lt (by (with_reducible repeat (first | apply Kd.R_alloc | apply Kd.R_drewN | apply Kd.R_drew)); exact HO_60.out))) (Kd.R_lt (by (with_reducible repeat (first | apply Kd.R_alloc | apply Kd.R_drewN | apply Kd.R_drew)); exact HO465.out))) (below_size (by repeat (first | (with_reducible first | exact HB.out | apply below_alloc | apply pw_below_drewN | apply below_drew1) | exact HB.out)))); have n9_ := Aside0.mk (below_step (by repeat (first | (with_reducible first | exact HB.out | apply below_alloc | apply pw_below_drewN | apply below_drew1) | exact HB.out)) hb); clear HO_9; clear HO_10; clear HO_11; clear HO_14; clear HO_17; clear HO_60; clear HO465; clear HO472; clear HB; have HO_9 := n0_; have HO_10 := n1_; have HO_11 := n2_; have HO_14 := n3_; have HO_17 := n4_; have HO_60 := n5_; have HO465 := n6_; have HO472 := n7_; have HO475 := n8_; have HB := n9_; clear n0_ n1_ n2_ n3_ n4_ n5_ n6_ n7_ n8_ n9_; (try clear hb); (try clear hb2); (try clear hk); (try clear hi); (try clear ho0); obtain ⟨Ao64, co64, eo64⟩ := Kd.R_slice HO475.out; subst eo64; obtain ⟨Ao65, co65, eo65⟩ := Kd.R_slice HO_14.out; subst eo65) | (go_at_call 22; (with_reducible refine (oriellaw01_Ints.calls k3 _ _ t473 _ _ x14_2 true _ ?side1 ?side2 ?side3 ?side4 A48.out).mono ?_); (case side1 => repeat (first | exact (Kd.R_reads' HO475.out).2.2 | (with_reducible refine Kd.C_alloc ?_ _) | (with_reducible refine Kd.C_drewN ?_ _) | (with_reducible refine Kd.C_drew ?_))); (case side2 => exact (Kd.R_reads' HO475.out).2.1); (case side3 => repeat (first | exact (Kd.R_reads' HO_14.out).2.2 | (with_reducible refine Kd.C_alloc ?_ _) | (with_reducible refine Kd.C_drewN ?_ _) | (with_reducible refine Kd.C_drew ?_))); (case side4 => exact (Kd.R_reads' HO_14.out).2.1); rintro e w' ⟨rfl, ⟨nd, rfl⟩⟩; (try first | exact ⟨rfl, _, World.drewN_drewN _ _ _⟩ | exact ⟨rfl, _, Eq.trans (World.drewN_drewN _ _ _) (congrArg (World.drewN _) (Nat.add_assoc _ _ _))⟩)) | (go_at_call 30; (with_reducible refine (pack_Set_Without.calls k3 _ _ l0 a3 t477 _ ?side1 ?side2 A50.out).mono ?_); (case side1 => repeat (first | exact (Kd.C_below HR0.out (by repeat (first | (with_reducible first | exact HB.out | apply below_alloc | apply pw_below_drewN | apply below_drew1) | exact HB.out))) | (with_reducible refine Kd.C_alloc ?_ _) | (with_reducible refine Kd.C_drewN ?_ _) | (with_reducible refine Kd.C_drew ?_))); (case side2 => exact HC0.out); rintro e w66 ⟨v478, rfl, ho0, hb⟩; have n0_ := Aside0.mk (Kd.R_below (by (with_reducible repeat (first | apply Kd.R_alloc | apply Kd.R_drewN | apply Kd.R_drew)); exact HO_9.out) hb); have n1_ := Aside0.mk (Kd.R_below (by (with_reducible repeat (first | apply Kd.R_alloc | apply Kd.R_drewN | apply Kd.R_drew)); exact HO_10.out) hb); have n2_ := Aside0.mk (Kd.R_elder' (by (with_reducible repeat (first | apply Kd.R_alloc | apply Kd.R_drewN | apply Kd.R_drew)); exact HO_11.out) (Kd.R_base ho0) hb); have n3_ := Aside0.mk (Kd.R_below (by (with_reducible repeat (first | apply Kd.R_alloc | apply Kd.R_drewN | apply Kd.R_drew)); exact HO_14.out) hb); have n4_ := Aside0.mk (Kd.R_below (by (with_reducible repeat (first | apply Kd.R_alloc | apply Kd.R_drewN | apply Kd.R_drew)); exact HO_17.out) hb); have n5_ := Aside0.mk (Kd.R_below (by (with_reducible repeat (first | apply Kd.R_alloc | apply Kd.R_drewN | apply Kd.R_drew)); exact HO_60.out) hb); have n6_ := Aside0.mk (Kd.R_below (by (with_reducible repeat (first | apply Kd.R_alloc | apply Kd.R_drewN | apply Kd.R_drew)); exact HO465.out) hb); have n7_ := Aside0.mk (Kd.R_elder' (by (with_reducible repeat (first | apply Kd.R_alloc | apply Kd.R_drewN | apply Kd.R_drew)); exact HO472.out) (Kd.R_base ho0) hb); have n8_ := Aside0.mk (Kd.R_below (by (with_reducible repeat (first | apply Kd.R_alloc | apply Kd.R_drewN | apply Kd.R_drew)); exact HO475.out) hb); have n9_ := Aside0.mk (Kd.R_lower (Kd.R_new' (Kd.R_new' ho0 (Kd.R_lt (by (with_reducible repeat (first | apply Kd.R_alloc | apply Kd.R_drewN | apply Kd.R_drew)); exact HO_11.out))) (Kd.R_lt (by (with_reducible repeat (first | apply Kd.R_alloc | apply Kd.R_drewN | apply Kd.R_drew)); exact HO472.out))) (below_size (by repeat (first | (with_reducible first | exact HB.out | apply below_alloc | apply pw_below_drewN | apply below_drew1) | exact HB.out)))); have n10_ := Aside0.mk (below_step (by repeat (first | (with_reducible first | exact HB.out | apply below_alloc | apply pw_below_drewN | apply below_drew1) | exact HB.out)) hb); clear HO_9; clear HO_10; clear HO_11; clear HO_14; clear HO_17; clear HO_60; clear HO465; clear HO472; clear HO475; clear HB; have HO_9 := n0_; have HO_10 := n1_; have HO_11 := n2_; have HO_14 := n3_; have HO_17 := n4_; have HO_60 := n5_; have HO465 := n6_; have HO472 := n7_; have HO475 := n8_; have HO479 := n9_; have HB := n10_; clear n0_ n1_ n2_ n3_ n4_ n5_ n6_ n7_ n8_ n9_ n10_; (try clear hb); (try clear hb2); (try clear hk); (try clear hi); (try clear ho0); obtain ⟨Ao67, co67, eo67⟩ := Kd.R_slice HO479.out; subst eo67) | (go_at_call 24; (with_reducible refine (pack_Set_List.calls k3 _ _ t477 t480 _ ?side1 ?side2 ?sideT A51.out).mono ?_); (case sideT => first | exact HT.out | exact TabW.below HT.out (by repeat (first | (with_reducible first | exact HB.out | apply below_alloc | apply pw_below_drewN | apply below_drew1) | exact HB.out))); (case side1 => repeat (first | exact (Kd.R_reads' HO479.out).2.2 | (with_reducible refine Kd.C_alloc ?_ _) | (with_reducible refine Kd.C_drewN ?_ _) | (with_reducible refine Kd.C_drew ?_))); (case side2 => exact (Kd.R_reads' HO479.out).2.1); rintro e w68 ⟨v481, rfl, ho0, hb⟩; have n0_ := Aside0.mk (Kd.R_elder' (by (with_reducible repeat (first | apply Kd.R_alloc | apply Kd.R_drewN | apply Kd.R_drew)); exact HO_9.out) (Kd.R_base ho0) hb); have n1_ := Aside0.mk (Kd.R_elder' (by (with_reducible repeat (first | apply Kd.R_alloc | apply Kd.R_drewN | apply Kd.R_drew)); exact HO_10.out) (Kd.R_base ho0) hb); have n2_ := Aside0.mk (Kd.R_below (by (with_reducible repeat (first | apply Kd.R_alloc | apply Kd.R_drewN | apply Kd.R_drew)); exact HO_11.out) hb); have n3_ := Aside0.mk (Kd.R_elder' (by (with_reducible repeat (first | apply Kd.R_alloc | apply Kd.R_drewN | apply Kd.R_drew)); exact HO_14.out) (Kd.R_base ho0) hb); have n4_ := Aside0.mk (Kd.R_elder' (by (with_reducible repeat (first | apply Kd.R_alloc | apply Kd.R_drewN | apply Kd.R_drew)); exact HO_17.out) (Kd.R_base ho0) hb); have n5_ := Aside0.mk (Kd.R_elder' (by (with_reducible repeat (first | apply Kd.R_alloc | apply Kd.R_drewN | apply Kd.R_drew)); exact HO_60.out) (Kd.R_base ho0) hb); have n6_ := Aside0.mk (Kd.R_elder' (by (with_reducible repeat (first | apply Kd.R_alloc | apply Kd.R_drewN | apply Kd.R_drew)); exact HO465.out) (Kd.R_base ho0) hb); have n7_ := Aside0.mk (Kd.R_below (by (with_reducible repeat (first | apply Kd.R_alloc | apply Kd.R_drewN | apply Kd.R_drew)); exact HO472.out) hb); have n8_ := Aside0.mk (Kd.R_elder' (by (with_reducible repeat (first | apply Kd.R_alloc | apply Kd.R_drewN | apply Kd.R_drew)); exact HO475.out) (Kd.R_base ho0) hb); have n9_ := Aside0.mk (Kd.R_below (by (with_reducible repeat (first | apply Kd.R_alloc | apply Kd.R_drewN | apply Kd.R_drew)); exact HO479.out) hb); have n10_ := Aside0.mk (Kd.R_lower (Kd.R_new' (Kd.R_new' (Kd.R_new' (Kd.R_new' (Kd.R_new' (Kd.R_new' (Kd.R_new' ho0 (Kd.R_lt (by (with_reducible repeat (first | apply Kd.R_alloc | apply Kd.R_drewN | apply Kd.R_drew)); exact HO_9.out))) (Kd.R_lt (by (with_reducible repeat (first | apply Kd.R_alloc | apply Kd.R_drewN | apply Kd.R_drew)); exact HO_10.out))) (Kd.R_lt (by (with_reducible repeat (first | apply Kd.R_alloc | apply Kd.R_drewN | apply Kd.R_drew)); exact HO_14.out))) (Kd.R_lt (by (with_reducible repeat (first | apply Kd.R_alloc | apply Kd.R_drewN | apply Kd.R_drew)); exact HO_17.out))) (Kd.R_lt (by (with_reducible repeat (first | apply Kd.R_alloc | apply Kd.R_drewN | apply Kd.R_drew)); exact HO_60.out))) (Kd.R_lt (by (with_reducible repeat (first | apply Kd.R_alloc | apply Kd.R_drewN | apply Kd.R_drew)); exact HO465.out))) (Kd.R_lt (by (with_reducible repeat (first | apply Kd.R_alloc | apply Kd.R_drewN | apply Kd.R_drew)); exact HO475.out))) (below_size (by repeat (first | (with_reducible first | exact HB.out | apply below_alloc | apply pw_below_drewN | apply below_drew1) | exact HB.out)))); have n11_ := Aside0.mk (below_step (by repeat (first | (with_reducible first | exact HB.out | apply below_alloc | apply pw_below_drewN | apply below_drew1) | exact HB.out)) hb); clear HO_9; clear HO_10; clear HO_11; clear HO_14; clear HO_17; clear HO_60; clear HO465; clear HO472; clear HO475; clear HO479; clear HB; have HO_9 := n0_; have HO_10 := n1_; have HO_11 := n2_; have HO_14 := n3_; have HO_17 := n4_; have HO_60 := n5_; have HO465 := n6_; have HO472 := n7_; have HO475 := n8_; have HO479 := n9_; have HO482 := n10_; have HB := n11_; clear n0_ n1_ n2_ n3_ n4_ n5_ n6_ n7_ n8_ n9_ n10_ n11_; (try clear hb); (try clear hb2); (try clear hk); (try clear hi); (try clear ho0); obtain ⟨Ao69, co69, eo69⟩ := Kd.R_slice HO482.out; subst eo69; obtain ⟨Ao70, co70, eo70⟩ := Kd.R_slice HO_17.out; subst eo70) | (go_at_call 22; (with_reducible refine (oriellaw01_Ints.calls k3 _ _ t480 _ _ x17_3 true _ ?side1 ?side2 ?side3 ?side4 A52.out).mono ?_); (case side1 => repeat (first | exact (Kd.R_reads' HO482.out).2.2 | (with_reducible refine Kd.C_alloc ?_ _) | (with_reducible refine Kd.C_drewN ?_ _) | (with_reducible refine Kd.C_drew ?_))); (case side2 => exact (Kd.R_reads' HO482.out).2.1); (case side3 => repeat (first | exact (Kd.R_reads' HO_17.out).2.2 | (with_reducible refine Kd.C_alloc ?_ _) | (with_reducible refine Kd.C_drewN ?_ _) | (with_reducible refine Kd.C_drew ?_))); (case side4 => exact (Kd.R_reads' HO_17.out).2.1); rintro e w' ⟨rfl, ⟨nd, rfl⟩⟩; (try first | exact ⟨rfl, _, World.drewN_drewN _ _ _⟩ | exact ⟨rfl, _, Eq.trans (World.drewN_drewN _ _ _) (congrArg (World.drewN _) (Nat.add_assoc _ _ _))⟩)) | (go_at_call 21; (with_reducible refine (pack_Of.calls k3 _ _ l2 t484 _ ?side1 ?side2 A54.out).mono ?_); (case side1 => repeat (first | exact (Kd.C_below HR2.out (by repeat (first | (with_reducible first | exact HB.out | apply below_alloc | apply pw_below_drewN | apply below_drew1) | exact HB.out))) | (with_reducible refine Kd.C_alloc ?_ _) | (with_reducible refine Kd.C_drewN ?_ _) | (with_reducible refine Kd.C_drew ?_))); (case side2 => exact HC2.out); rintro e w71 ⟨v485, rfl, ho0, hb⟩; have n0_ := Aside0.mk (Kd.R_below (by (with_reducible repeat (first | apply Kd.R_alloc | apply Kd.R_drewN | apply Kd.R_drew)); exact HO_9.out) hb); have n1_ := Aside0.mk (Kd.R_below (by (with_reducible repeat (first | apply Kd.R_alloc | apply Kd.R_drewN | apply Kd.R_drew)); exact HO_10.out) hb); have n2_ := Aside0.mk (Kd.R_elder' (by (with_reducible repeat (first | apply Kd.R_alloc | apply Kd.R_drewN | apply Kd.R_drew)); exact HO_11.out) (Kd.R_base ho0) hb); have n3_ := Aside0.mk (Kd.R_below (by (with_reducible repeat (first | apply Kd.R_alloc | apply Kd.R_drewN | apply Kd.R_drew)); exact HO_14.out) hb); have n4_ := Aside0.mk (Kd.R_below (by (with_reducible repeat (first | apply Kd.R_alloc | apply Kd.R_drewN | apply Kd.R_drew)); exact HO_17.out) hb); have n5_ := Aside0.mk (Kd.R_below (by (with_reducible repeat (first | apply Kd.R_alloc | apply Kd.R_drewN | apply Kd.R_drew)); exact HO_60.out) hb); have n6_ := Aside0.mk (Kd.R_below (by (with_reducible repeat (first | apply Kd.R_alloc | apply Kd.R_drewN | apply Kd.R_drew)); exact HO465.out) hb); have n7_ := Aside0.mk (Kd.R_elder' (by (with_reducible repeat (first | apply Kd.R_alloc | apply Kd.R_drewN | apply Kd.R_drew)); exact HO472.out) (Kd.R_base ho0) hb); have n8_ := Aside0.mk (Kd.R_below (by (with_reducible repeat (first | apply Kd.R_alloc | apply Kd.R_drewN | apply Kd.R_drew)); exact HO475.out) hb); have n9_ := Aside0.mk (Kd.R_elder' (by (with_reducible repeat (first | apply Kd.R_alloc | apply Kd.R_drewN | apply Kd.R_drew)); exact HO479.out) (Kd.R_base ho0) hb); have n10_ := Aside0.mk (Kd.R_below (by (with_reducible repeat (first | apply Kd.R_alloc | apply Kd.R_drewN | apply Kd.R_drew)); exact HO482.out) hb); have n11_ := Aside0.mk (Kd.R_lower (Kd.R_new' (Kd.R_new' (Kd.R_new' ho0 (Kd.R_lt (by (with_reducible repeat (first | apply Kd.R_alloc | apply Kd.R_drewN | apply Kd.R_drew)); exact HO_11.out))) (Kd.R_lt (by (with_reducible repeat (first | apply Kd.R_alloc | apply Kd.R_drewN | apply Kd.R_drew)); exact HO472.out))) (Kd.R_lt (by (with_reducible repeat (first | apply Kd.R_alloc | apply Kd.R_drewN | apply Kd.R_drew)); exact HO479.out))) (below_size (by repeat (first | (with_reducible first | exact HB.out | apply below_alloc | apply pw_below_drewN | apply below_drew1) | exact HB.out)))); have n12_ := Aside0.mk (below_step (by repeat (first | (with_reducible first | exact HB.out | apply below_alloc | apply pw_below_drewN | apply below_drew1) | exact HB.out)) hb); clear HO_9; clear HO_10; clear HO_11; clear HO_14; clear HO_17; clear HO_60; clear HO465; clear HO472; clear HO475; clear HO479; clear HO482; clear HB; have HO_9 := n0_; have HO_10 := n1_; have HO_11 := n2_; have HO_14 := n3_; have HO_17 := n4_; have HO_60 := n5_; have HO465 := n6_; have HO472 := n7_; have HO475 := n8_; have HO479 := n9_; have HO482 := n10_; have HO486 := n11_; have HB := n12_; clear n0_ n1_ n2_ n3_ n4_ n5_ n6_ n7_ n8_ n9_ n10_ n11_ n12_; (try clear hb); (try clear hb2); (try clear hk); (try clear hi); (try clear ho0); obtain ⟨Ao72, co72, eo72⟩ := Kd.R_slice HO486.out; subst eo72) | (go_at_call 24; (with_reducible refine (pack_Set_List.calls k3 _ _ t484 t487 _ ?side1 ?side2 ?sideT A55.out).mono ?_); (case sideT => first | exact HT.out | exact TabW.below HT.out (by repeat (first | (with_reducible first | exact HB.out | apply below_alloc | apply pw_below_drewN | apply below_drew1) | exact HB.out))); (case side1 => repeat (first | exact (Kd.R_reads' HO486.out).2.2 | (with_reducible refine Kd.C_alloc ?_ _) | (with_reducible refine Kd.C_drewN ?_ _) | (with_reducible refine Kd.C_drew ?_))); (case side2 => exact (Kd.R_reads' HO486.out).2.1); rintro e w73 ⟨v488, rfl, ho0, hb⟩; have n0_ := Aside0.mk (Kd.R_elder' (by (with_reducible repeat (first | apply Kd.R_alloc | apply Kd.R_drewN | apply Kd.R_drew)); exact HO_9.out) (Kd.R_base ho0) hb); have n1_ := Aside0.mk (Kd.R_elder' (by (with_reducible repeat (first | apply Kd.R_alloc | apply Kd.R_drewN | apply Kd.R_drew)); exact HO_10.out) (Kd.R_base ho0) hb); have n2_ := Aside0.mk (Kd.R_below (by (with_reducible repeat (first | apply Kd.R_alloc | apply Kd.R_drewN | apply Kd.R_drew)); exact HO_11.out) hb); have n3_ := Aside0.mk (Kd.R_elder' (by (with_reducible repeat (first | apply Kd.R_alloc | apply Kd.R_drewN | apply Kd.R_drew)); exact HO_14.out) (Kd.R_base ho0) hb); have n4_ := Aside0.mk (Kd.R_elder' (by (with_reducible repeat (first | apply Kd.R_alloc | apply Kd.R_drewN | apply Kd.R_drew)); exact HO_17.out) (Kd.R_base ho0) hb); have n5_ := Aside0.mk (Kd.R_elder' (by (with_reducible repeat (first | apply Kd.R_alloc | apply Kd.R_drewN | apply Kd.R_drew)); exact HO_60.out) (Kd.R_base ho0) hb); have n6_ := Aside0.mk (Kd.R_elder' (by (with_reducible repeat (first | apply Kd.R_alloc | apply Kd.R_drewN | apply Kd.R_drew)); exact HO465.out) (Kd.R_base ho0) hb); have n7_ := Aside0.mk (Kd.R_below (by (with_reducible repeat (first | apply Kd.R_alloc | apply Kd.R_drewN | apply Kd.R_drew)); exact HO472.out) hb); have n8_ := Aside0.mk (Kd.R_elder' (by (with_reducible repeat (first | apply Kd.R_alloc | apply Kd.R_drewN | apply Kd.R_drew)); exact HO475.out) (Kd.R_base ho0) hb); have n9_ := Aside0.mk (Kd.R_below (by (with_reducible repeat (first | apply Kd.R_alloc | apply Kd.R_drewN | apply Kd.R_drew)); exact HO479.out) hb); have n10_ := Aside0.mk (Kd.R_elder' (by (with_reducible repeat (first | apply Kd.R_alloc | apply Kd.R_drewN | apply Kd.R_drew)); exact HO482.out) (Kd.R_base ho0) hb); have n11_ := Aside0.mk (Kd.R_below (by (with_reducible repeat (first | apply Kd.R_alloc | apply Kd.R_drewN | apply Kd.R_drew)); exact HO486.out) hb); have n12_ := Aside0.mk (Kd.R_lower (Kd.R_new' (Kd.R_new' (Kd.R_new' (Kd.R_new' (Kd.R_new' (Kd.R_new' (Kd.R_new' (Kd.R_new' ho0 (Kd.R_lt (by (with_reducible repeat (first | apply Kd.R_alloc | apply Kd.R_drewN | apply Kd.R_drew)); exact HO_9.out))) (Kd.R_lt (by (with_reducible repeat (first | apply Kd.R_alloc | apply Kd.R_drewN | apply Kd.R_drew)); exact HO_10.out))) (Kd.R_lt (by (with_reducible repeat (first | apply Kd.R_alloc | apply Kd.R_drewN | apply Kd.R_drew)); exact HO_14.out))) (Kd.R_lt (by (with_reducible repeat (first | apply Kd.R_alloc | apply Kd.R_drewN | apply Kd.R_drew)); exact HO_17.out))) (Kd.R_lt (by (with_reducible repeat (first | apply Kd.R_alloc | apply Kd.R_drewN | apply Kd.R_drew)); exact HO_60.out))) (Kd.R_lt (by (with_reducible repeat (first | apply Kd.R_alloc | apply Kd.R_drewN | apply Kd.R_drew)); exact HO465.out))) (Kd.R_lt (by (with_reducible repeat (first | apply Kd.R_alloc | apply Kd.R_drewN | apply Kd.R_drew)); exact HO475.out))) (Kd.R_lt (by (with_reducible repeat (first | apply Kd.R_alloc | apply Kd.R_drewN | apply Kd.R_drew)); exact HO482.out))) (below_size (by repeat (first | (with_reducible first | exact HB.out | apply below_alloc | apply pw_below_drewN | apply below_drew1) | exact HB.out)))); have n13_ := Aside0.mk (below_step (by repeat (first | (with_reducible first | exact HB.out | apply below_alloc | apply pw_below_drewN | apply below_drew1) | exact HB.out)) hb); clear HO_9; clear HO_10; clear HO_11; clear HO_14; clear HO_17; clear HO_60; clear HO465; clear HO472; clear HO475; clear HO479; clear HO482; clear HO486; clear HB; have HO_9 := n0_; have HO_10 := n1_; have HO_11 := n2_; have HO_14 := n3_; have HO_17 := n4_; have HO_60 := n5_; have HO465 := n6_; have HO472 := n7_; have HO475 := n8_; have HO479 := n9_; have HO482 := n10_; have HO486 := n11_; have HO489 := n12_; have HB := n13_; clear n0_ n1_ n2_ n3_ n4_ n5_ n6_ n7_ n8_ n9_ n10_ n11_ n12_ n13_; (try clear hb); (try clear hb2); (try clear hk); (try clear hi); (try clear ho0)) | (go_at_call 31; (with_reducible refine (orielref03_Rising.calls k3 _ _ l2 t490 _ ?side1 ?side2 A56.out).mono ?_); (case side1 => repeat (first | exact (Kd.C_below HR2.out HB.out) | (with_reducible refine Kd.C_alloc ?_ _) | (with_reducible refine Kd.C_drewN ?_ _) | (with_reducible refine Kd.C_drew ?_))); (case side2 => exact HC2.out); rintro e w74 ⟨v491, rfl, ho0, hb⟩; have n0_ := Aside0.mk (Kd.R_elder' (by (with_reducible repeat (first | apply Kd.R_alloc | apply Kd.R_drewN | apply Kd.R_drew)); exact HO_9.out) (Kd.R_base ho0) hb); have n1_ := Aside0.mk (Kd.R_elder' (by (with_reducible repeat (first | apply Kd.R_alloc | apply Kd.R_drewN | apply Kd.R_drew)); exact HO_10.out) (Kd.R_base ho0) hb); have n2_ := Aside0.mk (Kd.R_below (by (with_reducible repeat (first | apply Kd.R_alloc | apply Kd.R_drewN | apply Kd.R_drew)); exact HO_11.out) hb); have n3_ := Aside0.mk (Kd.R_elder' (by (with_reducible repeat (first | apply Kd.R_alloc | apply Kd.R_drewN | apply Kd.R_drew)); exact HO_14.out) (Kd.R_base ho0) hb); have n4_ := Aside0.mk (Kd.R_elder' (by (with_reducible repeat (first | apply Kd.R_alloc | apply Kd.R_drewN | apply Kd.R_drew)); exact HO_17.out) (Kd.R_base ho0) hb); have n5_ := Aside0.mk (Kd.R_elder' (by (with_reducible repeat (first | apply Kd.R_alloc | apply Kd.R_drewN | apply Kd.R_drew)); exact HO_60.out) (Kd.R_base ho0) hb); have n6_ := Aside0.mk (Kd.R_elder' (by (with_reducible repeat (first | apply Kd.R_alloc | apply Kd.R_drewN | apply Kd.R_drew)); exact HO465.out) (Kd.R_base ho0) hb); have n7_ := Aside0.mk (Kd.R_below (by (with_reducible repeat (first | apply Kd.R_alloc | apply Kd.R_drewN | apply Kd.R_drew)); exact HO472.out) hb); have n8_ := Aside0.mk (Kd.R_elder' (by (with_reducible repeat (first | apply Kd.R_alloc | apply Kd.R_drewN | apply Kd.R_drew)); exact HO475.out) (Kd.R_base ho0) hb); have n9_ := Aside0.mk (Kd.R_below (by (with_reducible repeat (first | apply Kd.R_alloc | apply Kd.R_drewN | apply Kd.R_drew)); exact HO479.out) hb); have n10_ := Aside0.mk (Kd.R_elder' (by (with_reducible repeat (first | apply Kd.R_alloc | apply Kd.R_drewN | apply Kd.R_drew)); exact HO482.out) (Kd.R_base ho0) hb); have n11_ := Aside0.mk (Kd.R_below (by (with_reducible repeat (first | apply Kd.R_alloc | apply Kd.R_drewN | apply Kd.R_drew)); exact HO486.out) hb); have n12_ := Aside0.mk (Kd.R_elder' (by (with_reducible repeat (first | apply Kd.R_alloc | apply Kd.R_drewN | apply Kd.R_drew)); exact HO489.out) (Kd.R_base ho0) hb); have n13_ := Aside0.mk (Kd.R_lower (Kd.R_new' (Kd.R_new' (Kd.R_new' (Kd.R_new' (Kd.R_new' (Kd.R_new' (Kd.R_new' (Kd.R_new' (Kd.R_new' ho0 (Kd.R_lt (by (with_reducible repeat (first | apply Kd.R_alloc | apply Kd.R_drewN | apply Kd.R_drew)); exact HO_9.out))) (Kd.R_lt (by (with_reducible repeat (first | apply Kd.R_alloc | apply Kd.R_drewN | apply Kd.R_drew)); exact HO_10.out))) (Kd.R_lt (by (with_reducible repeat (first | apply Kd.R_alloc | apply Kd.R_drewN | apply Kd.R_drew)); exact HO_14.out))) (Kd.R_lt (by (with_reducible repeat (first | apply Kd.R_alloc | apply Kd.R_drewN | apply Kd.R_drew)); exact HO_17.out))) (Kd.R_lt (by (with_reducible repeat (first | apply Kd.R_alloc | apply Kd.R_drewN | apply Kd.R_drew)); exact HO_60.out))) (Kd.R_lt (by (with_reducible repeat (first | apply Kd.R_alloc | apply Kd.R_drewN | apply Kd.R_drew)); exact HO465.out))) (Kd.R_lt (by (with_reducible repeat (first | apply Kd.R_alloc | apply Kd.R_drewN | apply Kd.R_drew)); exact HO475.out))) (Kd.R_lt (by (with_reducible repeat (first | apply Kd.R_alloc | apply Kd.R_drewN | apply Kd.R_drew)); exact HO482.out))) (Kd.R_lt (by (with_reducible repeat (first | apply Kd.R_alloc | apply Kd.R_drewN | apply Kd.R_drew)); exact HO489.out))) (below_size (by repeat (first | (with_reducible first | exact HB.out | apply below_alloc | apply pw_below_drewN | apply below_drew1) | exact HB.out)))); have n14_ := Aside0.mk (below_step (by repeat (first | (with_reducible first | exact HB.out | apply below_alloc | apply pw_below_drewN | apply below_drew1) | exact HB.out)) hb); clear HO_9; clear HO_10; clear HO_11; clear HO_14; clear HO_17; clear HO_60; clear HO465; clear HO472; clear HO475; clear HO479; clear HO482; clear HO486; clear HO489; clear HB; have HO_9 := n0_; have HO_10 := n1_; have HO_11 := n2_; have HO_14 := n3_; have HO_17 := n4_; have HO_60 := n5_; have HO465 := n6_; have HO472 := n7_; have HO475 := n8_; have HO479 := n9_; have HO482 := n10_; have HO486 := n11_; have HO489 := n12_; have HO492 := n13_; have HB := n14_; clear n0_ n1_ n2_ n3_ n4_ n5_ n6_ n7_ n8_ n9_ n10_ n11_ n12_ n13_ n14_; (try clear hb); (try clear hb2); (try clear hk); (try clear hi); (try clear ho0); obtain ⟨Ao75, co75, eo75⟩ := Kd.R_slice HO489.out; subst eo75; obtain ⟨Ao76, co76, eo76⟩ := Kd.R_slice HO492.out; subst eo76) | (go_at_call 22; (with_reducible refine (oriellaw01_Ints.calls k3 _ _ t487 _ _ t490 t493 _ ?side1 ?side2 ?side3 ?side4 A57.out).mono ?_); (case side1 => repeat (first | exact (Kd.R_reads' HO489.out).2.2 | (with_reducible refine Kd.C_alloc ?_ _) | (with_reducible refine Kd.C_drewN ?_ _) | (with_reducible refine Kd.C_drew ?_))); (case side2 => exact (Kd.R_reads' HO489.out).2.1); (case side3 => repeat (first | exact (Kd.R_reads' HO492.out).2.2 | (with_reducible refine Kd.C_alloc ?_ _) | (with_reducible refine Kd.C_drewN ?_ _) | (with_reducible refine Kd.C_drew ?_))); (case side4 => exact (Kd.R_reads' HO492.out).2.1); rintro e w' ⟨rfl, ⟨nd, rfl⟩⟩; (try first | exact ⟨rfl, _, World.drewN_drewN _ _ _⟩ | exact ⟨rfl, _, Eq.trans (World.drewN_drewN _ _ _) (congrArg (World.drewN _) (Nat.add_assoc _ _ _))⟩)))
                                  go_meet
                                  case rel => exact ⟨_, (!t493), (by first | rfl | (simp; done) | (simp [*]; done)), H', ⟨by have := HJ4.out; have := HK2.out; have := HK3.out; first | omega | exact Nat.le_refl _⟩, ⟨by (with_reducible repeat (first | apply Kd.R_alloc | apply Kd.R_drewN | apply Kd.R_drew)); exact Kd.R_mono HO_9.out (fun _ hk => hk.1.1.1.1.1.1)⟩, ⟨by (with_reducible repeat (first | apply Kd.R_alloc | apply Kd.R_drewN | apply Kd.R_drew)); exact Kd.R_mono HO_10.out (fun _ hk => hk.1.1.1.1.1.1)⟩, ⟨by (with_reducible repeat (first | apply Kd.R_alloc | apply Kd.R_drewN | apply Kd.R_drew)); exact Kd.R_mono HO_11.out (fun _ hk => trivial)⟩, ⟨by repeat (first | (with_reducible first | exact HB.out | apply below_alloc | apply pw_below_drewN | apply below_drew1) | exact HB.out)⟩⟩
                                · replace c53 := Bool.eq_false_iff.mpr c53
                                  subst c53
                                  have H1 : (none) = some r := by rw [if_neg (show ¬ (false = true) by decide)] at H; exact H
                                  clear H
                                  have H := H1
                                  clear H1
                                  exact absurd H (by simp)
                              · replace c49 := Bool.eq_false_iff.mpr c49
                                subst c49
                                have H1 : (none) = some r := by rw [if_neg (show ¬ (false = true) by decide)] at H; exact H
                                clear H
                                have H := H1
                                clear H1
                                exact absurd H (by simp)
                          · rw [if_neg c42] at H
                            exact absurd H (by simp)
                        · replace c40 := Bool.eq_false_iff.mpr c40
                          subst c40
                          have H1 : (none) = some r := by rw [if_neg (show ¬ (false = true) by decide)] at H; exact H
                          clear H
                          have H := H1
                          clear H1
                          exact absurd H (by simp)
                      case rest =>
                        clear HC37
                        try clear c1
                        try clear c2
                        try clear p2
                        try clear c3
                        try clear c4
                        try clear p4
                        try clear q4
                        try clear hx4
                        try clear c5
                        try clear c6
                        try clear c6b0
                        try clear c6b1
                        try clear p6
                        try clear c7
                        try clear c7b0
                        try clear c7b1
                        try clear c8
                        try clear c13
                        try clear c20
                        try clear c20b0
                        try clear c21
                        try clear c21b0
                        try clear c22
                        try clear c22b0
                        try clear c24
                        try clear c26
                        try clear c31
                        try clear c31b0
                        try clear c32
                        try clear c32b0
                        try clear c33
                        try clear c33b0
                        try clear c34
                        try clear c34b0
                        try clear c34b1
                        try clear c35
                        try clear c40
                        try clear c42
                        try clear c42b0
                        try clear c42b1
                        try clear c45
                        try clear c45b0
                        try clear c45b1
                        try clear c45b2
                        try clear p45
                        try clear q45
                        try clear hx45
                        try clear c49
                        try clear c53
                        try clear p64
                        try clear hx451_0
                        try clear hx459_0
                        try clear p2
                        try clear p4
                        try clear p451
                        try clear p459
                        try clear p6
                        try clear q4
                        try clear q451
                        try clear q459
                        obtain ⟨kq, x121_36, rfl, HA, HJ36, HO_9, HO_10, HO_11, HB⟩ := hcut
                        cases kq with
                        | zero => exact absurd HA.out (by simp [oriellaw03_PackSets.j3])
                        | succ kj36 =>
                          have H := HA.out
                          clear HA
                          simp only [oriellaw03_PackSets.j3] at H
                          by_cases c77 : x121_36 = true
                          · subst c77
                            have H1 : (none) = some r := by rw [if_pos rfl] at H; exact H
                            clear H
                            have H := H1
                            clear H1
                            exact absurd H (by simp)
                          · replace c77 := Bool.eq_false_iff.mpr c77
                            subst c77
                            have H1 : (if (wrap64 ((t439.length : Int) + (t442.length : Int))) ≤ 300 then ((pack_Set_Join.f kj36 l0 l1).bind fun t494 => ((pack_Set_List.f kj36 t494).bind fun t497 => ((some (([] : List Int) : List Int)).bind fun y500 => (if y500.length + t439.length < 17592186044416 then ((some (y500 ++ t439 : List Int)).bind fun y503 => (if y503.length + t442.length < 17592186044416 then ((orielref03_Rising.f kj36 (y503 ++ t442)).bind fun t509 => ((oriellaw01_Ints.f kj36 t497 t509).bind fun t512 => (if t512 = true then ((pack_Set_With.f kj36 l0 a3).bind fun t513 => ((pack_Set_List.f kj36 t513).bind fun t516 => ((some (([] : List Int) : List Int)).bind fun y519 => (if y519.length + t439.length < 17592186044416 then ((some (y519 ++ t439 : List Int)).bind fun y522 => (if y522.length < 17592186044416 then ((orielref03_Rising.f kj36 (y522 ++ [a3])).bind fun t528 => ((oriellaw01_Ints.f kj36 t516 t528).bind fun t531 => (oriellaw03_PackSets.j4 kj36 l0 y448 (!t531)))) else (none))) else (none))))) else (none)))) else (none))) else (none))))) else (oriellaw03_PackSets.j4 kj36 l0 y448 false)) = some r := by rw [if_neg (show ¬ (false = true) by decide)] at H; exact H
                            clear H
                            have H := H1
                            clear H1
                            have HC78 := Aside0.mk H
                            clear H
                            go_upto_region 22 with (fail)
                            repeat (go_quiet (fail); go_upto_region 22 with (fail))
                            go_cut [156] (fun v156 wc => ∃ (kq : Nat) (x156_77 : Bool), v156 = .bool x156_77 ∧ Aside0 (oriellaw03_PackSets.j4 kq l0 y448 x156_77 = some r) ∧ Aside0 (kq ≤ kj36) ∧ Aside0 (Kd.R (Kd.int .u64) 23 wc w.heap.size (fun _ => True) v449 y448) ∧ Aside0 (Below w.heap.size w wc))
                            case first =>
                              have H := HC78.out
                              clear HC78
                              by_cases c79 : (wrap64 ((t439.length : Int) + (t442.length : Int))) ≤ 300
                              · rw [if_pos c79] at H
                                have c79b0 : decide ((wrap64 ((t439.length : Int) + (t442.length : Int))) ≤ 300) = true := decide_eq_true c79
                                clear c79
                                (first | rw [c79b0] | (simp only [i64_w, i32_w]; rw [c79b0]) | skip)
                                replace H := Option.bind_eq_some_iff.mp H
                                obtain ⟨t494, A800, H⟩ := H
                                replace H : ((pack_Set_List.f kj36 t494).bind fun t497 => ((some (([] : List Int) : List Int)).bind fun y500 => (if y500.length + t439.length < 17592186044416 then ((some (y500 ++ t439 : List Int)).bind fun y503 => (if y503.length + t442.length < 17592186044416 then ((orielref03_Rising.f kj36 (y503 ++ t442)).bind fun t509 => ((oriellaw01_Ints.f kj36 t497 t509).bind fun t512 => (if t512 = true then ((pack_Set_With.f kj36 l0 a3).bind fun t513 => ((pack_Set_List.f kj36 t513).bind fun t516 => ((some (([] : List Int) : List Int)).bind fun y519 => (if y519.length + t439.length < 17592186044416 then ((some (y519 ++ t439 : List Int)).bind fun y522 => (if y522.length < 17592186044416 then ((orielref03_Rising.f kj36 (y522 ++ [a3])).bind fun t528 => ((oriellaw01_Ints.f kj36 t516 t528).bind fun t531 => (oriellaw03_PackSets.j4 kj36 l0 y448 (!t531)))) else (none))) else (none))))) else (none)))) else (none))) else (none)))) = some r := H
                                have A80 := Aside0.mk A800
                                clear A800
                                replace H := Option.bind_eq_some_iff.mp H
                                obtain ⟨t497, A810, H⟩ := H
                                replace H : ((some (([] : List Int) : List Int)).bind fun y500 => (if y500.length + t439.length < 17592186044416 then ((some (y500 ++ t439 : List Int)).bind fun y503 => (if y503.length + t442.length < 17592186044416 then ((orielref03_Rising.f kj36 (y503 ++ t442)).bind fun t509 => ((oriellaw01_Ints.f kj36 t497 t509).bind fun t512 => (if t512 = true then ((pack_Set_With.f kj36 l0 a3).bind fun t513 => ((pack_Set_List.f kj36 t513).bind fun t516 => ((some (([] : List Int) : List Int)).bind fun y519 => (if y519.length + t439.length < 17592186044416 then ((some (y519 ++ t439 : List Int)).bind fun y522 => (if y522.length < 17592186044416 then ((orielref03_Rising.f kj36 (y522 ++ [a3])).bind fun t528 => ((oriellaw01_Ints.f kj36 t516 t528).bind fun t531 => (oriellaw03_PackSets.j4 kj36 l0 y448 (!t531)))) else (none))) else (none))))) else (none)))) else (none))) else (none))) = some r := H
                                have A81 := Aside0.mk A810
                                clear A810
                                obtain ⟨y500, hy500⟩ : ∃ y_ : List Int, y_ = (([] : List Int)) := ⟨_, rfl⟩
                                replace H : (if y500.length + t439.length < 17592186044416 then ((some (y500 ++ t439 : List Int)).bind fun y503 => (if y503.length + t442.length < 17592186044416 then ((orielref03_Rising.f kj36 (y503 ++ t442)).bind fun t509 => ((oriellaw01_Ints.f kj36 t497 t509).bind fun t512 => (if t512 = true then ((pack_Set_With.f kj36 l0 a3).bind fun t513 => ((pack_Set_List.f kj36 t513).bind fun t516 => ((some (([] : List Int) : List Int)).bind fun y519 => (if y519.length + t439.length < 17592186044416 then ((some (y519 ++ t439 : List Int)).bind fun y522 => (if y522.length < 17592186044416 then ((orielref03_Rising.f kj36 (y522 ++ [a3])).bind fun t528 => ((oriellaw01_Ints.f kj36 t516 t528).bind fun t531 => (oriellaw03_PackSets.j4 kj36 l0 y448 (!t531)))) else (none))) else (none))))) else (none)))) else (none))) else (none)) = some r := by first | (rw [hy500]; with_reducible exact H) | (have H2_ := (Option.bind_some _ _).symm.trans H; rw [hy500]; with_reducible exact H2_) | (have H2_ := (Option.bind_some _ _).symm.trans H; with_reducible exact H2_) | with_reducible exact H | (rw [hy500]; exact H) | exact H
                                have Ny500 := Aside0.mk hy500
                                clear hy500
                                by_cases c82 : y500.length + t439.length < 17592186044416
                                · rw [if_pos c82] at H
                                  have LMc82 := Aside0.mk c82
                                  clear c82
                                  obtain ⟨y503, hy503⟩ : ∃ y_ : List Int, y_ = (y500 ++ t439) := ⟨_, rfl⟩
                                  replace H : (if y503.length + t442.length < 17592186044416 then ((orielref03_Rising.f kj36 (y503 ++ t442)).bind fun t509 => ((oriellaw01_Ints.f kj36 t497 t509).bind fun t512 => (if t512 = true then ((pack_Set_With.f kj36 l0 a3).bind fun t513 => ((pack_Set_List.f kj36 t513).bind fun t516 => ((some (([] : List Int) : List Int)).bind fun y519 => (if y519.length + t439.length < 17592186044416 then ((some (y519 ++ t439 : List Int)).bind fun y522 => (if y522.length < 17592186044416 then ((orielref03_Rising.f kj36 (y522 ++ [a3])).bind fun t528 => ((oriellaw01_Ints.f kj36 t516 t528).bind fun t531 => (oriellaw03_PackSets.j4 kj36 l0 y448 (!t531)))) else (none))) else (none))))) else (none)))) else (none)) = some r := by first | (rw [hy503]; with_reducible exact H) | (have H2_ := (Option.bind_some _ _).symm.trans H; rw [hy503]; with_reducible exact H2_) | (have H2_ := (Option.bind_some _ _).symm.trans H; with_reducible exact H2_) | with_reducible exact H | (rw [hy503]; exact H) | exact H
                                  have Ny503 := Aside0.mk hy503
                                  clear hy503
                                  by_cases c83 : y503.length + t442.length < 17592186044416
                                  · rw [if_pos c83] at H
                                    have LMc83 := Aside0.mk c83
                                    clear c83
                                    obtain ⟨y506, hy506⟩ : ∃ y_ : List Int, y_ = (y503 ++ t442) := ⟨_, rfl⟩
                                    replace H : ((orielref03_Rising.f kj36 y506).bind fun t509 => ((oriellaw01_Ints.f kj36 t497 t509).bind fun t512 => (if t512 = true then ((pack_Set_With.f kj36 l0 a3).bind fun t513 => ((pack_Set_List.f kj36 t513).bind fun t516 => ((some (([] : List Int) : List Int)).bind fun y519 => (if y519.length + t439.length < 17592186044416 then ((some (y519 ++ t439 : List Int)).bind fun y522 => (if y522.length < 17592186044416 then ((orielref03_Rising.f kj36 (y522 ++ [a3])).bind fun t528 => ((oriellaw01_Ints.f kj36 t516 t528).bind fun t531 => (oriellaw03_PackSets.j4 kj36 l0 y448 (!t531)))) else (none))) else (none))))) else (none)))) = some r := by first | (rw [hy506]; with_reducible exact H) | (have H2_ := (Option.bind_some _ _).symm.trans H; rw [hy506]; with_reducible exact H2_) | (have H2_ := (Option.bind_some _ _).symm.trans H; with_reducible exact H2_) | with_reducible exact H | (rw [hy506]; exact H) | exact H
                                    have Ny506 := Aside0.mk hy506
                                    clear hy506
                                    replace H := Option.bind_eq_some_iff.mp H
                                    obtain ⟨t509, A840, H⟩ := H
                                    replace H : ((oriellaw01_Ints.f kj36 t497 t509).bind fun t512 => (if t512 = true then ((pack_Set_With.f kj36 l0 a3).bind fun t513 => ((pack_Set_List.f kj36 t513).bind fun t516 => ((some (([] : List Int) : List Int)).bind fun y519 => (if y519.length + t439.length < 17592186044416 then ((some (y519 ++ t439 : List Int)).bind fun y522 => (if y522.length < 17592186044416 then ((orielref03_Rising.f kj36 (y522 ++ [a3])).bind fun t528 => ((oriellaw01_Ints.f kj36 t516 t528).bind fun t531 => (oriellaw03_PackSets.j4 kj36 l0 y448 (!t531)))) else (none))) else (none))))) else (none))) = some r := H
                                    have A84 := Aside0.mk A840
                                    clear A840
                                    replace H := Option.bind_eq_some_iff.mp H
                                    obtain ⟨t512, A850, H⟩ := H
                                    replace H : (if t512 = true then ((pack_Set_With.f kj36 l0 a3).bind fun t513 => ((pack_Set_List.f kj36 t513).bind fun t516 => ((some (([] : List Int) : List Int)).bind fun y519 => (if y519.length + t439.length < 17592186044416 then ((some (y519 ++ t439 : List Int)).bind fun y522 => (if y522.length < 17592186044416 then ((orielref03_Rising.f kj36 (y522 ++ [a3])).bind fun t528 => ((oriellaw01_Ints.f kj36 t516 t528).bind fun t531 => (oriellaw03_PackSets.j4 kj36 l0 y448 (!t531)))) else (none))) else (none))))) else (none)) = some r := H
                                    have A85 := Aside0.mk A850
                                    clear A850
                                    by_cases c86 : t512 = true
                                    · subst c86
                                      have H1 : ((pack_Set_With.f kj36 l0 a3).bind fun t513 => ((pack_Set_List.f kj36 t513).bind fun t516 => ((some (([] : List Int) : List Int)).bind fun y519 => (if y519.length + t439.length < 17592186044416 then ((some (y519 ++ t439 : List Int)).bind fun y522 => (if y522.length < 17592186044416 then ((orielref03_Rising.f kj36 (y522 ++ [a3])).bind fun t528 => ((oriellaw01_Ints.f kj36 t516 t528).bind fun t531 => (oriellaw03_PackSets.j4 kj36 l0 y448 (!t531)))) else (none))) else (none))))) = some r := by rw [if_pos rfl] at H; exact H
                                      clear H
                                      have H := H1
                                      clear H1
                                      replace H := Option.bind_eq_some_iff.mp H
                                      obtain ⟨t513, A870, H⟩ := H
                                      replace H : ((pack_Set_List.f kj36 t513).bind fun t516 => ((some (([] : List Int) : List Int)).bind fun y519 => (if y519.length + t439.length < 17592186044416 then ((some (y519 ++ t439 : List Int)).bind fun y522 => (if y522.length < 17592186044416 then ((orielref03_Rising.f kj36 (y522 ++ [a3])).bind fun t528 => ((oriellaw01_Ints.f kj36 t516 t528).bind fun t531 => (oriellaw03_PackSets.j4 kj36 l0 y448 (!t531)))) else (none))) else (none)))) = some r := H
                                      have A87 := Aside0.mk A870
                                      clear A870
                                      replace H := Option.bind_eq_some_iff.mp H
                                      obtain ⟨t516, A880, H⟩ := H
                                      replace H : ((some (([] : List Int) : List Int)).bind fun y519 => (if y519.length + t439.length < 17592186044416 then ((some (y519 ++ t439 : List Int)).bind fun y522 => (if y522.length < 17592186044416 then ((orielref03_Rising.f kj36 (y522 ++ [a3])).bind fun t528 => ((oriellaw01_Ints.f kj36 t516 t528).bind fun t531 => (oriellaw03_PackSets.j4 kj36 l0 y448 (!t531)))) else (none))) else (none))) = some r := H
                                      have A88 := Aside0.mk A880
                                      clear A880
                                      obtain ⟨y519, hy519⟩ : ∃ y_ : List Int, y_ = (([] : List Int)) := ⟨_, rfl⟩
                                      replace H : (if y519.length + t439.length < 17592186044416 then ((some (y519 ++ t439 : List Int)).bind fun y522 => (if y522.length < 17592186044416 then ((orielref03_Rising.f kj36 (y522 ++ [a3])).bind fun t528 => ((oriellaw01_Ints.f kj36 t516 t528).bind fun t531 => (oriellaw03_PackSets.j4 kj36 l0 y448 (!t531)))) else (none))) else (none)) = some r := by first | (rw [hy519]; with_reducible exact H) | (have H2_ := (Option.bind_some _ _).symm.trans H; rw [hy519]; with_reducible exact H2_) | (have H2_ := (Option.bind_some _ _).symm.trans H; with_reducible exact H2_) | with_reducible exact H | (rw [hy519]; exact H) | exact H
                                      have Ny519 := Aside0.mk hy519
                                      clear hy519
                                      by_cases c89 : y519.length + t439.length < 17592186044416
                                      · rw [if_pos c89] at H
                                        have LMc89 := Aside0.mk c89
                                        clear c89
                                        obtain ⟨y522, hy522⟩ : ∃ y_ : List Int, y_ = (y519 ++ t439) := ⟨_, rfl⟩
                                        replace H : (if y522.length < 17592186044416 then ((orielref03_Rising.f kj36 (y522 ++ [a3])).bind fun t528 => ((oriellaw01_Ints.f kj36 t516 t528).bind fun t531 => (oriellaw03_PackSets.j4 kj36 l0 y448 (!t531)))) else (none)) = some r := by first | (rw [hy522]; with_reducible exact H) | (have H2_ := (Option.bind_some _ _).symm.trans H; rw [hy522]; with_reducible exact H2_) | (have H2_ := (Option.bind_some _ _).symm.trans H; with_reducible exact H2_) | with_reducible exact H | (rw [hy522]; exact H) | exact H
                                        have Ny522 := Aside0.mk hy522
                                        clear hy522
                                        by_cases c90 : y522.length < 17592186044416
                                        · rw [if_pos c90] at H
                                          have LMc90 := Aside0.mk c90
                                          clear c90
                                          obtain ⟨y525, hy525⟩ : ∃ y_ : List Int, y_ = (y522 ++ [a3]) := ⟨_, rfl⟩
                                          replace H : ((orielref03_Rising.f kj36 y525).bind fun t528 => ((oriellaw01_Ints.f kj36 t516 t528).bind fun t531 => (oriellaw03_PackSets.j4 kj36 l0 y448 (!t531)))) = some r := by first | (rw [hy525]; with_reducible exact H) | (have H2_ := (Option.bind_some _ _).symm.trans H; rw [hy525]; with_reducible exact H2_) | (have H2_ := (Option.bind_some _ _).symm.trans H; with_reducible exact H2_) | with_reducible exact H | (rw [hy525]; exact H) | exact H
                                          have Ny525 := Aside0.mk hy525
                                          clear hy525
                                          replace H := Option.bind_eq_some_iff.mp H
                                          obtain ⟨t528, A910, H⟩ := H
                                          replace H : ((oriellaw01_Ints.f kj36 t516 t528).bind fun t531 => (oriellaw03_PackSets.j4 kj36 l0 y448 (!t531))) = some r := H
                                          have A91 := Aside0.mk A910
                                          clear A910
                                          replace H := Option.bind_eq_some_iff.mp H
                                          obtain ⟨t531, A920, H⟩ := H
                                          replace H : (oriellaw03_PackSets.j4 kj36 l0 y448 (!t531)) = some r := H
                                          have A92 := Aside0.mk A920
                                          clear A920
                                          have H' := Aside0.mk H
                                          clear H
                                          obtain ⟨Ao93, co93, eo93⟩ := Kd.R_slice HO_10.out
                                          subst eo93
                                          go_wp2_with (first | (go_at_call 23; (with_reducible refine (pack_Set_Join.calls kj36 _ _ l0 _ _ l1 t494 _ ?side1 ?side2 ?side3 ?side4 A80.out).mono ?_); (case side1 => repeat (first | exact (Kd.C_below HR0.out HB.out) | (with_reducible refine Kd.C_alloc ?_ _) | (with_reducible refine Kd.C_drewN ?_ _) | (with_reducible refine Kd.C_drew ?_))); (case side2 => exact HC0.out); (case side3 => repeat (first | exact (Kd.C_below HR1.out HB.out) | (with_reducible refine Kd.C_alloc ?_ _) | (with_reducible refine Kd.C_drewN ?_ _) | (with_reducible refine Kd.C_drew ?_))); (case side4 => exact HC1.out); rintro e w94 ⟨v495, rfl, ho0, hb⟩; have n0_ := Aside0.mk (Kd.R_below (by (with_reducible repeat (first | apply Kd.R_alloc | apply Kd.R_drewN | apply Kd.R_drew)); exact HO_9.out) hb); have n1_ := Aside0.mk (Kd.R_below (by (with_reducible repeat (first | apply Kd.R_alloc | apply Kd.R_drewN | apply Kd.R_drew)); exact HO_10.out) hb); have n2_ := Aside0.mk (Kd.R_elder' (by (with_reducible repeat (first | apply Kd.R_alloc | apply Kd.R_drewN | apply Kd.R_drew)); exact HO_11.out) (Kd.R_base ho0) hb); have n3_ := Aside0.mk (Kd.R_lower (Kd.R_new' ho0 (Kd.R_lt (by (with_reducible repeat (first | apply Kd.R_alloc | apply Kd.R_drewN | apply Kd.R_drew)); exact HO_11.out))) (below_size (by repeat (first | (with_reducible first | exact HB.out | apply below_alloc | apply pw_below_drewN | apply below_drew1) | exact HB.out)))); have n4_ := Aside0.mk (below_step (by repeat (first | (with_reducible first | exact HB.out | apply below_alloc | apply pw_below_drewN | apply below_drew1) | exact HB.out)) hb); clear HO_9; clear HO_10; clear HO_11; clear HB; have HO_9 := n0_; have HO_10 := n1_; have HO_11 := n2_; have HO496 := n3_; have HB := n4_; clear n0_ n1_ n2_ n3_ n4_; (try clear hb); (try clear hb2); (try clear hk); (try clear hi); (try clear ho0); obtain ⟨Ao95, co95, eo95⟩ := Kd.R_slice HO496.out; subst eo95) | (go_at_call 24; (with_reducible refine (pack_Set_List.calls kj36 _ _ t494 t497 _ ?side1 ?side2 ?sideT A81.out).mono ?_); (case sideT => first | exact HT.out | exact TabW.below HT.out (by repeat (first | (with_reducible first | exact HB.out | apply below_alloc | apply pw_below_drewN | apply below_drew1) | exact HB.out))); (case side1 => repeat (first | exact (Kd.R_reads' HO496.out).2.2 | (with_reducible refine Kd.C_alloc ?_ _) | (with_reducible refine Kd.C_drewN ?_ _) | (with_reducible refine Kd.C_drew ?_))); (case side2 => exact (Kd.R_reads' HO496.out).2.1); rintro e w96 ⟨v498, rfl, ho0, hb⟩; have n0_ := Aside0.mk (Kd.R_elder' (by (with_reducible repeat (first | apply Kd.R_alloc | apply Kd.R_drewN | apply Kd.R_drew)); exact HO_9.out) (Kd.R_base ho0) hb); have n1_ := Aside0.mk (Kd.R_elder' (by (with_reducible repeat (first | apply Kd.R_alloc | apply Kd.R_drewN | apply Kd.R_drew)); exact HO_10.out) (Kd.R_base ho0) hb); have n2_ := Aside0.mk (Kd.R_below (by (with_reducible repeat (first | apply Kd.R_alloc | apply Kd.R_drewN | apply Kd.R_drew)); exact HO_11.out) hb); have n3_ := Aside0.mk (Kd.R_below (by (with_reducible repeat (first | apply Kd.R_alloc | apply Kd.R_drewN | apply Kd.R_drew)); exact HO496.out) hb); have n4_ := Aside0.mk (Kd.R_lower (Kd.R_new' (Kd.R_new' ho0 (Kd.R_lt (by (with_reducible repeat (first | apply Kd.R_alloc | apply Kd.R_drewN | apply Kd.R_drew)); exact HO_9.out))) (Kd.R_lt (by (with_reducible repeat (first | apply Kd.R_alloc | apply Kd.R_drewN | apply Kd.R_drew)); exact HO_10.out))) (below_size (by repeat (first | (with_reducible first | exact HB.out | apply below_alloc | apply pw_below_drewN | apply below_drew1) | exact HB.out)))); have n5_ := Aside0.mk (below_step (by repeat (first | (with_reducible first | exact HB.out | apply below_alloc | apply pw_below_drewN | apply below_drew1) | exact HB.out)) hb); clear HO_9; clear HO_10; clear HO_11; clear HO496; clear HB; have HO_9 := n0_; have HO_10 := n1_; have HO_11 := n2_; have HO496 := n3_; have HO499 := n4_; have HB := n5_; clear n0_ n1_ n2_ n3_ n4_ n5_; (try clear hb); (try clear hb2); (try clear hk); (try clear hi); (try clear ho0)) | ((with_reducible refine gate_dst (N := 133) rfl ?_); (try (refine gate_guard (by rfl) ?_; dsimp only)); refine Kd.R_lit (Kd.int .i64) _ 3 ?hg (N := 133) ?hd (xs := ([] : List Int)) (inner := []) (ok := fun _ => True) (okp := fun _ => True) ?hr ?hp (fun _ hk => hk) trivial (Below.refl _ _) (Nat.le_refl _) (by simp) ?_; (case hd => rfl); (case hg => rfl); (case hr => first | (go_simp; done) | (go_simp; rfl)); (case hp => exact (Reps.none _ _)); intro v501 w97 ho98 hb hg_ hnew_; clear hg_ hnew_; (first | rw [← Ny500.out] at ho98 | (simp only [Int.reduceToNat] at ho98; rw [← Ny500.out] at ho98)); have n0_ := Aside0.mk (Kd.R_elder' (by (with_reducible repeat (first | apply Kd.R_alloc | apply Kd.R_drewN | apply Kd.R_drew)); exact HO_9.out) (Kd.R_base ho98) hb); have n1_ := Aside0.mk (Kd.R_elder' (by (with_reducible repeat (first | apply Kd.R_alloc | apply Kd.R_drewN | apply Kd.R_drew)); exact HO_10.out) (Kd.R_base ho98) hb); have n2_ := Aside0.mk (Kd.R_below (by (with_reducible repeat (first | apply Kd.R_alloc | apply Kd.R_drewN | apply Kd.R_drew)); exact HO_11.out) hb); have n3_ := Aside0.mk (Kd.R_below (by (with_reducible repeat (first | apply Kd.R_alloc | apply Kd.R_drewN | apply Kd.R_drew)); exact HO496.out) hb); have n4_ := Aside0.mk (Kd.R_elder' (by (with_reducible repeat (first | apply Kd.R_alloc | apply Kd.R_drewN | apply Kd.R_drew)); exact HO499.out) (Kd.R_base ho98) hb); have n5_ := Aside0.mk (Kd.R_lower (Kd.R_new' (Kd.R_new' (Kd.R_new' ho98 (Kd.R_lt (by (with_reducible repeat (first | apply Kd.R_alloc | apply Kd.R_drewN | apply Kd.R_drew)); exact HO_9.out))) (Kd.R_lt (by (with_reducible repeat (first | apply Kd.R_alloc | apply Kd.R_drewN | apply Kd.R_drew)); exact HO_10.out))) (Kd.R_lt (by (with_reducible repeat (first | apply Kd.R_alloc | apply Kd.R_drewN | apply Kd.R_drew)); exact HO499.out))) (below_size (by repeat (first | (with_reducible first | exact HB.out | apply below_alloc | apply pw_below_drewN | apply below_drew1) | exact HB.out)))); have n6_ := Aside0.mk (below_step (by repeat (first | (with_reducible first | exact HB.out | apply below_alloc | apply pw_below_drewN | apply below_drew1) | exact HB.out)) hb); clear HO_9; clear HO_10; clear HO_11; clear HO496; clear HO499; clear HB; have HO_9 := n0_; have HO_10 := n1_; have HO_11 := n2_; have HO496 := n3_; have HO499 := n4_; have HO502 := n5_; have HB := n6_; clear n0_ n1_ n2_ n3_ n4_ n5_ n6_; clear hb ho98) | ((with_reducible refine gate_builtin (b := .append) (xs := #[.tmp 133, .tmp 134]) rfl ?_); (try (refine gate_guard (by rfl) ?_; dsimp only)); at_builtin; refine Kd.R_append_rows (Kd.int .i64) (w0 := w) w.heap.size rfl (.tmp 133) (.tmp 134) 44 3 (.int .i64 0) 8 rfl Tryd.underlying44 info3 rfl (by decide) (by omega) v501 y500 t439 _ _ _ (fun k_ => some k_ ≠ (.slice Ao19 t439.length co19 : Value).ownBlock ∧ some k_ ≠ (.slice Ao93 t442.length co93 : Value).ownBlock ∧ some k_ ≠ (v498 : Value).ownBlock) (fun _ => False) rfl rfl ?aO ?aR (fun _ _ h => h) (fun _ h => h.elim) ?aF ?aB ?aS ?aL ?_; (case aR => repeat (first | exact (Kd.R_reads' HO_9.out).2.2 | (with_reducible refine Kd.C_alloc ?_ _) | (with_reducible refine Kd.C_drewN ?_ _) | (with_reducible refine Kd.C_drew ?_))); (case aB => exact (by repeat (first | (with_reducible first | exact HB.out | apply below_alloc | apply pw_below_drewN | apply below_drew1) | exact HB.out))); (case aF => exact (fun k_ hk => ⟨Kd.fresh' (Kd.R_lt (by (with_reducible repeat (first | apply Kd.R_alloc | apply Kd.R_drewN | apply Kd.R_drew)); exact HO_9.out)) k_ hk, Kd.fresh' (Kd.R_lt (by (with_reducible repeat (first | apply Kd.R_alloc | apply Kd.R_drewN | apply Kd.R_drew)); exact HO_10.out)) k_ hk, Kd.fresh' (Kd.R_lt (by (with_reducible repeat (first | apply Kd.R_alloc | apply Kd.R_drewN | apply Kd.R_drew)); exact HO499.out)) k_ hk⟩)); (case aO => exact (by (with_reducible repeat (first | apply Kd.R_alloc | apply Kd.R_drewN | apply Kd.R_drew)); exact Kd.R_mono HO502.out (fun _ hk => ⟨hk.1.1.2, ⟨hk.1.2, hk.2⟩⟩))); (case aS => exact (below_size (by repeat (first | (with_reducible first | exact HB.out | apply below_alloc | apply pw_below_drewN | apply below_drew1) | exact HB.out)))); (case aL => have := LMc82.out; omega); intro v504 w99 ho hb hg hat; rw [← Ny503.out] at ho; have n0_ := Aside0.mk (Kd.R_after (ok := (fun k_ => some k_ ≠ (.slice Ao93 t442.length co93 : Value).ownBlock ∧ some k_ ≠ (v498 : Value).ownBlock)) (by (with_reducible repeat (first | apply Kd.R_alloc | apply Kd.R_drewN | apply Kd.R_drew)); exact HO_9.out) hg hat); have n1_ := Aside0.mk (Kd.R_after (ok := (fun k_ => some k_ ≠ (.slice Ao19 t439.length co19 : Value).ownBlock ∧ some k_ ≠ (v498 : Value).ownBlock)) (by (with_reducible repeat (first | apply Kd.R_alloc | apply Kd.R_drewN | apply Kd.R_drew)); exact HO_10.out) hg hat); have n2_ := Aside0.mk (Kd.R_over' (by (with_reducible repeat (first | apply Kd.R_alloc | apply Kd.R_drewN | apply Kd.R_drew)); exact HO_11.out) (Kd.R_typed (by (with_reducible repeat (first | apply Kd.R_alloc | apply Kd.R_drewN | apply Kd.R_drew)); exact HO502.out)) (by decide) hg); have n3_ := Aside0.mk (Kd.R_over' (by (with_reducible repeat (first | apply Kd.R_alloc | apply Kd.R_drewN | apply Kd.R_drew)); exact HO496.out) (Kd.R_typed (by (with_reducible repeat (first | apply Kd.R_alloc | apply Kd.R_drewN | apply Kd.R_drew)); exact HO502.out)) (by decide) hg); have n4_ := Aside0.mk (Kd.R_after (ok := (fun k_ => some k_ ≠ (.slice Ao19 t439.length co19 : Value).ownBlock ∧ some k_ ≠ (.slice Ao93 t442.length co93 : Value).ownBlock)) (by (with_reducible repeat (first | apply Kd.R_alloc | apply Kd.R_drewN | apply Kd.R_drew)); exact Kd.R_mono HO499.out (fun _ hk => ⟨⟨hk.1.1.2, hk.1.2⟩, hk.2⟩)) hg hat); have n5_ := Aside0.mk (hb); have n6_ := Aside0.mk (ho); clear HO_9; clear HO_10; clear HO_11; clear HO496; clear HO499; clear HB; clear HO502; have HO_9 := n0_; have HO_10 := n1_; have HO_11 := n2_; have HO496 := n3_; have HO499 := n4_; have HB := n5_; have HO505 := n6_; clear n0_ n1_ n2_ n3_ n4_ n5_ n6_; clear ho hb hg hat) | ((with_reducible refine gate_builtin (b := .append) (xs := #[.tmp 135, .tmp 136]) rfl ?_); (try (refine gate_guard (by rfl) ?_; dsimp only)); at_builtin; refine Kd.R_append_rows (Kd.int .i64) (w0 := w) w.heap.size rfl (.tmp 135) (.tmp 136) 44 3 (.int .i64 0) 8 rfl Tryd.underlying44 info3 rfl (by decide) (by omega) v504 y503 t442 _ _ _ (fun k_ => some k_ ≠ (.slice Ao19 t439.length co19 : Value).ownBlock ∧ some k_ ≠ (.slice Ao93 t442.length co93 : Value).ownBlock ∧ some k_ ≠ (v498 : Value).ownBlock) (fun _ => False) rfl rfl ?aO ?aR (fun _ _ h => h) (fun _ h => h.elim) ?aF ?aB ?aS ?aL ?_; (case aR => repeat (first | exact (Kd.R_reads' HO_10.out).2.2 | (with_reducible refine Kd.C_alloc ?_ _) | (with_reducible refine Kd.C_drewN ?_ _) | (with_reducible refine Kd.C_drew ?_))); (case aB => exact (by repeat (first | (with_reducible first | exact HB.out | apply below_alloc | apply pw_below_drewN | apply below_drew1) | exact HB.out))); (case aF => exact (fun k_ hk => ⟨Kd.fresh' (Kd.R_lt (by (with_reducible repeat (first | apply Kd.R_alloc | apply Kd.R_drewN | apply Kd.R_drew)); exact HO_9.out)) k_ hk, Kd.fresh' (Kd.R_lt (by (with_reducible repeat (first | apply Kd.R_alloc | apply Kd.R_drewN | apply Kd.R_drew)); exact HO_10.out)) k_ hk, Kd.fresh' (Kd.R_lt (by (with_reducible repeat (first | apply Kd.R_alloc | apply Kd.R_drewN | apply Kd.R_drew)); exact HO499.out)) k_ hk⟩)); (case aO => exact (by (with_reducible repeat (first | apply Kd.R_alloc | apply Kd.R_drewN | apply Kd.R_drew)); exact HO505.out)); (case aS => exact (below_size (by repeat (first | (with_reducible first | exact HB.out | apply below_alloc | apply pw_below_drewN | apply below_drew1) | exact HB.out)))); (case aL => have := LMc83.out; omega); intro v507 w100 ho hb hg hat; rw [← Ny506.out] at ho; have n0_ := Aside0.mk (Kd.R_after (ok := (fun k_ => some k_ ≠ (.slice Ao93 t442.length co93 : Value).ownBlock ∧ some k_ ≠ (v498 : Value).ownBlock)) (by (with_reducible repeat (first | apply Kd.R_alloc | apply Kd.R_drewN | apply Kd.R_drew)); exact HO_9.out) hg hat); have n1_ := Aside0.mk (Kd.R_after (ok := (fun k_ => some k_ ≠ (.slice Ao19 t439.length co19 : Value).ownBlock ∧ some k_ ≠ (v498 : Value).ownBlock)) (by (with_reducible repeat (first | apply Kd.R_alloc | apply Kd.R_drewN | apply Kd.R_drew)); exact HO_10.out) hg hat); have n2_ := Aside0.mk (Kd.R_over' (by (with_reducible repeat (first | apply Kd.R_alloc | apply Kd.R_drewN | apply Kd.R_drew)); exact HO_11.out) (Kd.R_typed (by (with_reducible repeat (first | apply Kd.R_alloc | apply Kd.R_drewN | apply Kd.R_drew)); exact HO505.out)) (by decide) hg); have n3_ := Aside0.mk (Kd.R_over' (by (with_reducible repeat (first | apply Kd.R_alloc | apply Kd.R_drewN | apply Kd.R_drew)); exact HO496.out) (Kd.R_typed (by (with_reducible repeat (first | apply Kd.R_alloc | apply Kd.R_drewN | apply Kd.R_drew)); exact HO505.out)) (by decide) hg); have n4_ := Aside0.mk (Kd.R_after (ok := (fun k_ => some k_ ≠ (.slice Ao19 t439.length co19 : Value).ownBlock ∧ some k_ ≠ (.slice Ao93 t442.length co93 : Value).ownBlock)) (by (with_reducible repeat (first | apply Kd.R_alloc | apply Kd.R_drewN | apply Kd.R_drew)); exact HO499.out) hg hat); have n5_ := Aside0.mk (hb); have n6_ := Aside0.mk (ho); clear HO_9; clear HO_10; clear HO_11; clear HO496; clear HO499; clear HB; clear HO505; have HO_9 := n0_; have HO_10 := n1_; have HO_11 := n2_; have HO496 := n3_; have HO499 := n4_; have HB := n5_; have HO508 := n6_; clear n0_ n1_ n2_ n3_ n4_ n5_ n6_; clear ho hb hg hat; obtain ⟨Ao101, co101, eo101⟩ := Kd.R_slice HO508.out; subst eo101) | (go_at_call 31; (with_reducible refine (orielref03_Rising.calls kj36 _ _ y506 t509 _ ?side1 ?side2 A84.out).mono ?_); (case side1 => repeat (first | exact (Kd.R_reads' HO508.out).2.2 | (with_reducible refine Kd.C_alloc ?_ _) | (with_reducible refine Kd.C_drewN ?_ _) | (with_reducible refine Kd.C_drew ?_))); (case side2 => exact (Kd.R_reads' HO508.out).2.1); rintro e w102 ⟨v510, rfl, ho0, hb⟩; have n0_ := Aside0.mk (Kd.R_elder' (by (with_reducible repeat (first | apply Kd.R_alloc | apply Kd.R_drewN | apply Kd.R_drew)); exact HO_9.out) (Kd.R_base ho0) hb); have n1_ := Aside0.mk (Kd.R_elder' (by (with_reducible repeat (first | apply Kd.R_alloc | apply Kd.R_drewN | apply Kd.R_drew)); exact HO_10.out) (Kd.R_base ho0) hb); have n2_ := Aside0.mk (Kd.R_below (by (with_reducible repeat (first | apply Kd.R_alloc | apply Kd.R_drewN | apply Kd.R_drew)); exact HO_11.out) hb); have n3_ := Aside0.mk (Kd.R_below (by (with_reducible repeat (first | apply Kd.R_alloc | apply Kd.R_drewN | apply Kd.R_drew)); exact HO496.out) hb); have n4_ := Aside0.mk (Kd.R_elder' (by (with_reducible repeat (first | apply Kd.R_alloc | apply Kd.R_drewN | apply Kd.R_drew)); exact HO499.out) (Kd.R_base ho0) hb); have n5_ := Aside0.mk (Kd.R_elder' (by (with_reducible repeat (first | apply Kd.R_alloc | apply Kd.R_drewN | apply Kd.R_drew)); exact HO508.out) (Kd.R_base ho0) hb); have n6_ := Aside0.mk (Kd.R_lower (Kd.R_new' (Kd.R_new' (Kd.R_new' (Kd.R_new' ho0 (Kd.R_lt (by (with_reducible repeat (first | apply Kd.R_alloc | apply Kd.R_drewN | apply Kd.R_drew)); exact HO_9.out))) (Kd.R_lt (by (with_reducible repeat (first | apply Kd.R_alloc | apply Kd.R_drewN | apply Kd.R_drew)); exact HO_10.out))) (Kd.R_lt (by (with_reducible repeat (first | apply Kd.R_alloc | apply Kd.R_drewN | apply Kd.R_drew)); exact HO499.out))) (Kd.R_lt (by (with_reducible repeat (first | apply Kd.R_alloc | apply Kd.R_drewN | apply Kd.R_drew)); exact HO508.out))) (below_size (by repeat (first | (with_reducible first | exact HB.out | apply below_alloc | apply pw_below_drewN | apply below_drew1) | exact HB.out)))); have n7_ := Aside0.mk (below_step (by repeat (first | (with_reducible first | exact HB.out | apply below_alloc | apply pw_below_drewN | apply below_drew1) | exact HB.out)) hb); clear HO_9; clear HO_10; clear HO_11; clear HO496; clear HO499; clear HO508; clear HB; have HO_9 := n0_; have HO_10 := n1_; have HO_11 := n2_; have HO496 := n3_; have HO499 := n4_; have HO508 := n5_; have HO511 := n6_; have HB := n7_; clear n0_ n1_ n2_ n3_ n4_ n5_ n6_ n7_; (try clear hb); (try clear hb2); (try clear hk); (try clear hi); (try clear ho0); obtain ⟨Ao103, co103, eo103⟩ := Kd.R_slice HO499.out; subst eo103; obtain ⟨Ao104, co104, eo104⟩ := Kd.R_slice HO511.out; subst eo104) | (go_at_call 22; (with_reducible refine (oriellaw01_Ints.calls kj36 _ _ t497 _ _ t509 true _ ?side1 ?side2 ?side3 ?side4 A85.out).mono ?_); (case side1 => repeat (first | exact (Kd.R_reads' HO499.out).2.2 | (with_reducible refine Kd.C_alloc ?_ _) | (with_reducible refine Kd.C_drewN ?_ _) | (with_reducible refine Kd.C_drew ?_))); (case side2 => exact (Kd.R_reads' HO499.out).2.1); (case side3 => repeat (first | exact (Kd.R_reads' HO511.out).2.2 | (with_reducible refine Kd.C_alloc ?_ _) | (with_reducible refine Kd.C_drewN ?_ _) | (with_reducible refine Kd.C_drew ?_))); (case side4 => exact (Kd.R_reads' HO511.out).2.1); rintro e w' ⟨rfl, ⟨nd, rfl⟩⟩; (try first | exact ⟨rfl, _, World.drewN_drewN _ _ _⟩ | exact ⟨rfl, _, Eq.trans (World.drewN_drewN _ _ _) (congrArg (World.drewN _) (Nat.add_assoc _ _ _))⟩)) | (go_at_call 32; (with_reducible refine (pack_Set_With.calls kj36 _ _ l0 a3 t513 _ ?side1 ?side2 A87.out).mono ?_); (case side1 => repeat (first | exact (Kd.C_below HR0.out (by repeat (first | (with_reducible first | exact HB.out | apply below_alloc | apply pw_below_drewN | apply below_drew1) | exact HB.out))) | (with_reducible refine Kd.C_alloc ?_ _) | (with_reducible refine Kd.C_drewN ?_ _) | (with_reducible refine Kd.C_drew ?_))); (case side2 => exact HC0.out); rintro e w105 ⟨v514, rfl, ho0, hb⟩; have n0_ := Aside0.mk (Kd.R_below (by (with_reducible repeat (first | apply Kd.R_alloc | apply Kd.R_drewN | apply Kd.R_drew)); exact HO_9.out) hb); have n1_ := Aside0.mk (Kd.R_below (by (with_reducible repeat (first | apply Kd.R_alloc | apply Kd.R_drewN | apply Kd.R_drew)); exact HO_10.out) hb); have n2_ := Aside0.mk (Kd.R_elder' (by (with_reducible repeat (first | apply Kd.R_alloc | apply Kd.R_drewN | apply Kd.R_drew)); exact HO_11.out) (Kd.R_base ho0) hb); have n3_ := Aside0.mk (Kd.R_elder' (by (with_reducible repeat (first | apply Kd.R_alloc | apply Kd.R_drewN | apply Kd.R_drew)); exact HO496.out) (Kd.R_base ho0) hb); have n4_ := Aside0.mk (Kd.R_below (by (with_reducible repeat (first | apply Kd.R_alloc | apply Kd.R_drewN | apply Kd.R_drew)); exact HO499.out) hb); have n5_ := Aside0.mk (Kd.R_below (by (with_reducible repeat (first | apply Kd.R_alloc | apply Kd.R_drewN | apply Kd.R_drew)); exact HO508.out) hb); have n6_ := Aside0.mk (Kd.R_below (by (with_reducible repeat (first | apply Kd.R_alloc | apply Kd.R_drewN | apply Kd.R_drew)); exact HO511.out) hb); have n7_ := Aside0.mk (Kd.R_lower (Kd.R_new' (Kd.R_new' ho0 (Kd.R_lt (by (with_reducible repeat (first | apply Kd.R_alloc | apply Kd.R_drewN | apply Kd.R_drew)); exact HO_11.out))) (Kd.R_lt (by (with_reducible repeat (first | apply Kd.R_alloc | apply Kd.R_drewN | apply Kd.R_drew)); exact HO496.out))) (below_size (by repeat (first | (with_reducible first | exact HB.out | apply below_alloc | apply pw_below_drewN | apply below_drew1) | exact HB.out)))); have n8_ := Aside0.mk (below_step (by repeat (first | (with_reducible first | exact HB.out | apply below_alloc | apply pw_below_drewN | apply below_drew1) | exact HB.out)) hb); clear HO_9; clear HO_10; clear HO_11; clear HO496; clear HO499; clear HO508; clear HO511; clear HB; have HO_9 := n0_; have HO_10 := n1_; have HO_11 := n2_; have HO496 := n3_; have HO499 := n4_; have HO508 := n5_; have HO511 := n6_; have HO515 := n7_; have HB := n8_; clear n0_ n1_ n2_ n3_ n4_ n5_ n6_ n7_ n8_; (try clear hb); (try clear hb2); (try clear hk); (try clear hi); (try clear ho0); obtain ⟨Ao106, co106, eo106⟩ := Kd.R_slice HO515.out; subst eo106) | (go_at_call 24; (with_reducible refine (pack_Set_List.calls kj36 _ _ t513 t516 _ ?side1 ?side2 ?sideT A88.out).mono ?_); (case sideT => first | exact HT.out | exact TabW.below HT.out (by repeat (first | (with_reducible first | exact HB.out | apply below_alloc | apply pw_below_drewN | apply below_drew1) | exact HB.out))); (case side1 => repeat (first | exact (Kd.R_reads' HO515.out).2.2 | (with_reducible refine Kd.C_alloc ?_ _) | (with_reducible refine Kd.C_drewN ?_ _) | (with_reducible refine Kd.C_drew ?_))); (case side2 => exact (Kd.R_reads' HO515.out).2.1); rintro e w107 ⟨v517, rfl, ho0, hb⟩; have n0_ := Aside0.mk (Kd.R_elder' (by (with_reducible repeat (first | apply Kd.R_alloc | apply Kd.R_drewN | apply Kd.R_drew)); exact HO_9.out) (Kd.R_base ho0) hb); have n1_ := Aside0.mk (Kd.R_elder' (by (with_reducible repeat (first | apply Kd.R_alloc | apply Kd.R_drewN | apply Kd.R_drew)); exact HO_10.out) (Kd.R_base ho0) hb); have n2_ := Aside0.mk (Kd.R_below (by (with_reducible repeat (first | apply Kd.R_alloc | apply Kd.R_drewN | apply Kd.R_drew)); exact HO_11.out) hb); have n3_ := Aside0.mk (Kd.R_below (by (with_reducible repeat (first | apply Kd.R_alloc | apply Kd.R_drewN | apply Kd.R_drew)); exact HO496.out) hb); have n4_ := Aside0.mk (Kd.R_elder' (by (with_reducible repeat (first | apply Kd.R_alloc | apply Kd.R_drewN | apply Kd.R_drew)); exact HO499.out) (Kd.R_base ho0) hb); have n5_ := Aside0.mk (Kd.R_elder' (by (with_reducible repeat (first | apply Kd.R_alloc | apply Kd.R_drewN | apply Kd.R_drew)); exact HO508.out) (Kd.R_base ho0) hb); have n6_ := Aside0.mk (Kd.R_elder' (by (with_reducible repeat (first | apply Kd.R_alloc | apply Kd.R_drewN | apply Kd.R_drew)); exact HO511.out) (Kd.R_base ho0) hb); have n7_ := Aside0.mk (Kd.R_below (by (with_reducible repeat (first | apply Kd.R_alloc | apply Kd.R_drewN | apply Kd.R_drew)); exact HO515.out) hb); have n8_ := Aside0.mk (Kd.R_lower (Kd.R_new' (Kd.R_new' (Kd.R_new' (Kd.R_new' (Kd.R_new' ho0 (Kd.R_lt (by (with_reducible repeat (first | apply Kd.R_alloc | apply Kd.R_drewN | apply Kd.R_drew)); exact HO_9.out))) (Kd.R_lt (by (with_reducible repeat (first | apply Kd.R_alloc | apply Kd.R_drewN | apply Kd.R_drew)); exact HO_10.out))) (Kd.R_lt (by (with_reducible repeat (first | apply Kd.R_alloc | apply Kd.R_drewN | apply Kd.R_drew)); exact HO499.out))) (Kd.R_lt (by (with_reducible repeat (first | apply Kd.R_alloc | apply Kd.R_drewN | apply Kd.R_drew)); exact HO508.out))) (Kd.R_lt (by (with_reducible repeat (first | apply Kd.R_alloc | apply Kd.R_drewN | apply Kd.R_drew)); exact HO511.out))) (below_size (by repeat (first | (with_reducible first | exact HB.out | apply below_alloc | apply pw_below_drewN | apply below_drew1) | exact HB.out)))); have n9_ := Aside0.mk (below_step (by repeat (first | (with_reducible first | exact HB.out | apply below_alloc | apply pw_below_drewN | apply below_drew1) | exact HB.out)) hb); clear HO_9; clear HO_10; clear HO_11; clear HO496; clear HO499; clear HO508; clear HO511; clear HO515; clear HB; have HO_9 := n0_; have HO_10 := n1_; have HO_11 := n2_; have HO496 := n3_; have HO499 := n4_; have HO508 := n5_; have HO511 := n6_; have HO515 := n7_; have HO518 := n8_; have HB := n9_; clear n0_ n1_ n2_ n3_ n4_ n5_ n6_ n7_ n8_ n9_; (try clear hb); (try clear hb2); (try clear hk); (try clear hi); (try clear ho0)) | ((with_reducible refine gate_dst (N := 146) rfl ?_); (try (refine gate_guard (by rfl) ?_; dsimp only)); refine Kd.R_lit (Kd.int .i64) _ 3 ?hg (N := 146) ?hd (xs := ([] : List Int)) (inner := []) (ok := fun _ => True) (okp := fun _ => True) ?hr ?hp (fun _ hk => hk) trivial (Below.refl _ _) (Nat.le_refl _) (by simp) ?_; (case hd => rfl); (case hg => rfl); (case hr => first | (go_simp; done) | (go_simp; rfl)); (case hp => exact (Reps.none _ _)); intro v520 w108 ho109 hb hg_ hnew_; clear hg_ hnew_; (first | rw [← Ny519.out] at ho109 | (simp only [Int.reduceToNat] at ho109; rw [← Ny519.out] at ho109)); have n0_ := Aside0.mk (Kd.R_elder' (by (with_reducible repeat (first | apply Kd.R_alloc | apply Kd.R_drewN | apply Kd.R_drew)); exact HO_9.out) (Kd.R_base ho109) hb); have n1_ := Aside0.mk (Kd.R_elder' (by (with_reducible repeat (first | apply Kd.R_alloc | apply Kd.R_drewN | apply Kd.R_drew)); exact HO_10.out) (Kd.R_base ho109) hb); have n2_ := Aside0.mk (Kd.R_below (by (with_reducible repeat (first | apply Kd.R_alloc | apply Kd.R_drewN | apply Kd.R_drew)); exact HO_11.out) hb); have n3_ := Aside0.mk (Kd.R_below (by (with_reducible repeat (first | apply Kd.R_alloc | apply Kd.R_drewN | apply Kd.R_drew)); exact HO496.out) hb); have n4_ := Aside0.mk (Kd.R_elder' (by (with_reducible repeat (first | apply Kd.R_alloc | apply Kd.R_drewN | apply Kd.R_drew)); exact HO499.out) (Kd.R_base ho109) hb); have n5_ := Aside0.mk (Kd.R_elder' (by (with_reducible repeat (first | apply Kd.R_alloc | apply Kd.R_drewN | apply Kd.R_drew)); exact HO508.out) (Kd.R_base ho109) hb); have n6_ := Aside0.mk (Kd.R_elder' (by (with_reducible repeat (first | apply Kd.R_alloc | apply Kd.R_drewN | apply Kd.R_drew)); exact HO511.out) (Kd.R_base ho109) hb); have n7_ := Aside0.mk (Kd.R_below (by (with_reducible repeat (first | apply Kd.R_alloc | apply Kd.R_drewN | apply Kd.R_drew)); exact HO515.out) hb); have n8_ := Aside0.mk (Kd.R_elder' (by (with_reducible repeat (first | apply Kd.R_alloc | apply Kd.R_drewN | apply Kd.R_drew)); exact HO518.out) (Kd.R_base ho109) hb); have n9_ := Aside0.mk (Kd.R_lower (Kd.R_new' (Kd.R_new' (Kd.R_new' (Kd.R_new' (Kd.R_new' (Kd.R_new' ho109 (Kd.R_lt (by (with_reducible repeat (first | apply Kd.R_alloc | apply Kd.R_drewN | apply Kd.R_drew)); exact HO_9.out))) (Kd.R_lt (by (with_reducible repeat (first | apply Kd.R_alloc | apply Kd.R_drewN | apply Kd.R_drew)); exact HO_10.out))) (Kd.R_lt (by (with_reducible repeat (first | apply Kd.R_alloc | apply Kd.R_drewN | apply Kd.R_drew)); exact HO499.out))) (Kd.R_lt (by (with_reducible repeat (first | apply Kd.R_alloc | apply Kd.R_drewN | apply Kd.R_drew)); exact HO508.out))) (Kd.R_lt (by (with_reducible repeat (first | apply Kd.R_alloc | apply Kd.R_drewN | apply Kd.R_drew)); exact HO511.out))) (Kd.R_lt (by (with_reducible repeat (first | apply Kd.R_alloc | apply Kd.R_drewN | apply Kd.R_drew)); exact HO518.out))) (below_size (by repeat (first | (with_reducible first | exact HB.out | apply below_alloc | apply pw_below_drewN | apply below_drew1) | exact HB.out)))); have n10_ := Aside0.mk (below_step (by repeat (first | (with_reducible first | exact HB.out | apply below_alloc | apply pw_below_drewN | apply below_drew1) | exact HB.out)) hb); clear HO_9; clear HO_10; clear HO_11; clear HO496; clear HO499; clear HO508; clear HO511; clear HO515; clear HO518; clear HB; have HO_9 := n0_; have HO_10 := n1_; have HO_11 := n2_; have HO496 := n3_; have HO499 := n4_; have HO508 := n5_; have HO511 := n6_; have HO515 := n7_; have HO518 := n8_; have HO521 := n9_; have HB := n10_; clear n0_ n1_ n2_ n3_ n4_ n5_ n6_ n7_ n8_ n9_ n10_; clear hb ho109) | ((with_reducible refine gate_builtin (b := .append) (xs := #[.tmp 146, .tmp 147]) rfl ?_); (try (refine gate_guard (by rfl) ?_; dsimp only)); at_builtin; refine Kd.R_append_rows (Kd.int .i64) (w0 := w) w.heap.size rfl (.tmp 146) (.tmp 147) 44 3 (.int .i64 0) 8 rfl Tryd.underlying44 info3 rfl (by decide) (by omega) v520 y519 t439 _ _ _ (fun k_ => some k_ ≠ (.slice Ao19 t439.length co19 : Value).ownBlock ∧ some k_ ≠ (.slice Ao93 t442.length co93 : Value).ownBlock ∧ some k_ ≠ (.slice Ao103 t497.length co103 : Value).ownBlock ∧ some k_ ≠ (.slice Ao101 y506.length co101 : Value).ownBlock ∧ some k_ ≠ (.slice Ao104 t509.length co104 : Value).ownBlock ∧ some k_ ≠ (v517 : Value).ownBlock) (fun _ => False) rfl rfl ?aO ?aR (fun _ _ h => h) (fun _ h => h.elim) ?aF ?aB ?aS ?aL ?_; (case aR => repeat (first | exact (Kd.R_reads' HO_9.out).2.2 | (with_reducible refine Kd.C_alloc ?_ _) | (with_reducible refine Kd.C_drewN ?_ _) | (with_reducible refine Kd.C_drew ?_))); (case aB => exact (by repeat (first | (with_reducible first | exact HB.out | apply below_alloc | apply pw_below_drewN | apply below_drew1) | exact HB.out))); (case aF => exact (fun k_ hk => ⟨Kd.fresh' (Kd.R_lt (by (with_reducible repeat (first | apply Kd.R_alloc | apply Kd.R_drewN | apply Kd.R_drew)); exact HO_9.out)) k_ hk, Kd.fresh' (Kd.R_lt (by (with_reducible repeat (first | apply Kd.R_alloc | apply Kd.R_drewN | apply Kd.R_drew)); exact HO_10.out)) k_ hk, Kd.fresh' (Kd.R_lt (by (with_reducible repeat (first | apply Kd.R_alloc | apply Kd.R_drewN | apply Kd.R_drew)); exact HO499.out)) k_ hk, Kd.fresh' (Kd.R_lt (by (with_reducible repeat (first | apply Kd.R_alloc | apply Kd.R_drewN | apply Kd.R_drew)); exact HO508.out)) k_ hk, Kd.fresh' (Kd.R_lt (by (with_reducible repeat (first | apply Kd.R_alloc | apply Kd.R_drewN | apply Kd.R_drew)); exact HO511.out)) k_ hk, Kd.fresh' (Kd.R_lt (by (with_reducible repeat (first | apply Kd.R_alloc | apply Kd.R_drewN | apply Kd.R_drew)); exact HO518.out)) k_ hk⟩)); (case aO => exact (by (with_reducible repeat (first | apply Kd.R_alloc | apply Kd.R_drewN | apply Kd.R_drew)); exact Kd.R_mono HO521.out (fun _ hk => ⟨hk.1.1.1.1.1.2, ⟨hk.1.1.1.1.2, ⟨hk.1.1.1.2, ⟨hk.1.1.2, ⟨hk.1.2, hk.2⟩⟩⟩⟩⟩))); (case aS => exact (below_size (by repeat (first | (with_reducible first | exact HB.out | apply below_alloc | apply pw_below_drewN | apply below_drew1) | exact HB.out)))); (case aL => have := LMc89.out; omega); intro v523 w110 ho hb hg hat; rw [← Ny522.out] at ho; have n0_ := Aside0.mk (Kd.R_after (ok := (fun k_ => some k_ ≠ (.slice Ao93 t442.length co93 : Value).ownBlock ∧ some k_ ≠ (.slice Ao103 t497.length co103 : Value).ownBlock ∧ some k_ ≠ (.slice Ao101 y506.length co101 : Value).ownBlock ∧ some k_ ≠ (.slice Ao104 t509.length co104 : Value).ownBlock ∧ some k_ ≠ (v517 : Value).ownBlock)) (by (with_reducible repeat (first | apply Kd.R_alloc | apply Kd.R_drewN | apply Kd.R_drew)); exact Kd.R_mono HO_9.out (fun _ hk => ⟨⟨hk.1.1.1.1.1, ⟨hk.1.1.1.1.2, ⟨hk.1.1.1.2, ⟨hk.1.1.2, hk.1.2⟩⟩⟩⟩, hk.2⟩)) hg hat); have n1_ := Aside0.mk (Kd.R_after (ok := (fun k_ => some k_ ≠ (.slice Ao19 t439.length co19 : Value).ownBlock ∧ some k_ ≠ (.slice Ao103 t497.length co103 : Value).ownBlock ∧ some k_ ≠ (.slice Ao101 y506.length co101 : Value).ownBlock ∧ some k_ ≠ (.slice Ao104 t509.length co104 : Value).ownBlock ∧ some k_ ≠ (v517 : Value).ownBlock)) (by (with_reducible repeat (first | apply Kd.R_alloc | apply Kd.R_drewN | apply Kd.R_drew)); exact Kd.R_mono HO_10.out (fun _ hk => ⟨⟨hk.1.1.1.1.1, ⟨hk.1.1.1.1.2, ⟨hk.1.1.1.2, ⟨hk.1.1.2, hk.1.2⟩⟩⟩⟩, hk.2⟩)) hg hat); have n2_ := Aside0.mk (Kd.R_over' (by (with_reducible repeat (first | apply Kd.R_alloc | apply Kd.R_drewN | apply Kd.R_drew)); exact HO_11.out) (Kd.R_typed (by (with_reducible repeat (first | apply Kd.R_alloc | apply Kd.R_drewN | apply Kd.R_drew)); exact HO521.out)) (by decide) hg); have n3_ := Aside0.mk (Kd.R_over' (by (with_reducible repeat (first | apply Kd.R_alloc | apply Kd.R_drewN | apply Kd.R_drew)); exact HO496.out) (Kd.R_typed (by (with_reducible repeat (first | apply Kd.R_alloc | apply Kd.R_drewN | apply Kd.R_drew)); exact HO521.out)) (by decide) hg); have n4_ := Aside0.mk (Kd.R_after (ok := (fun k_ => some k_ ≠ (.slice Ao19 t439.length co19 : Value).ownBlock ∧ some k_ ≠ (.slice Ao93 t442.length co93 : Value).ownBlock ∧ some k_ ≠ (.slice Ao101 y506.length co101 : Value).ownBlock ∧ some k_ ≠ (.slice Ao104 t509.length co104 : Value).ownBlock ∧ some k_ ≠ (v517 : Value).ownBlock)) (by (with_reducible repeat (first | apply Kd.R_alloc | apply Kd.R_drewN | apply Kd.R_drew)); exact Kd.R_mono HO499.out (fun _ hk => ⟨⟨hk.1.1.1.1.1, ⟨hk.1.1.1.1.2, ⟨hk.1.1.1.2, ⟨hk.1.1.2, hk.1.2⟩⟩⟩⟩, hk.2⟩)) hg hat); have n5_ := Aside0.mk (Kd.R_after (ok := (fun k_ => some k_ ≠ (.slice Ao19 t439.length co19 : Value).ownBlock ∧ some k_ ≠ (.slice Ao93 t442.length co93 : Value).ownBlock ∧ some k_ ≠ (.slice Ao103 t497.length co103 : Value).ownBlock ∧ some k_ ≠ (.slice Ao104 t509.length co104 : Value).ownBlock ∧ some k_ ≠ (v517 : Value).ownBlock)) (by (with_reducible repeat (first | apply Kd.R_alloc | apply Kd.R_drewN | apply Kd.R_drew)); exact Kd.R_mono HO508.out (fun _ hk => ⟨⟨hk.1.1.1.1, ⟨hk.1.1.1.2.1, ⟨hk.1.1.1.2.2, ⟨hk.1.1.2, hk.1.2⟩⟩⟩⟩, hk.2⟩)) hg hat); have n6_ := Aside0.mk (Kd.R_after (ok := (fun k_ => some k_ ≠ (.slice Ao19 t439.length co19 : Value).ownBlock ∧ some k_ ≠ (.slice Ao93 t442.length co93 : Value).ownBlock ∧ some k_ ≠ (.slice Ao103 t497.length co103 : Value).ownBlock ∧ some k_ ≠ (.slice Ao101 y506.length co101 : Value).ownBlock ∧ some k_ ≠ (v517 : Value).ownBlock)) (by (with_reducible repeat (first | apply Kd.R_alloc | apply Kd.R_drewN | apply Kd.R_drew)); exact Kd.R_mono HO511.out (fun _ hk => ⟨⟨hk.1.1.1.1.1.2, ⟨hk.1.1.1.1.2, ⟨hk.1.1.1.2, ⟨hk.1.1.2, hk.1.2⟩⟩⟩⟩, hk.2⟩)) hg hat); have n7_ := Aside0.mk (Kd.R_over' (by (with_reducible repeat (first | apply Kd.R_alloc | apply Kd.R_drewN | apply Kd.R_drew)); exact HO515.out) (Kd.R_typed (by (with_reducible repeat (first | apply Kd.R_alloc | apply Kd.R_drewN | apply Kd.R_drew)); exact HO521.out)) (by decide) hg); have n8_ := Aside0.mk (Kd.R_after (ok := (fun k_ => some k_ ≠ (.slice Ao19 t439.length co19 : Value).ownBlock ∧ some k_ ≠ (.slice Ao93 t442.length co93 : Value).ownBlock ∧ some k_ ≠ (.slice Ao103 t497.length co103 : Value).ownBlock ∧ some k_ ≠ (.slice Ao101 y506.length co101 : Value).ownBlock ∧ some k_ ≠ (.slice Ao104 t509.length co104 : Value).ownBlock)) (by (with_reducible repeat (first | apply Kd.R_alloc | apply Kd.R_drewN | apply Kd.R_drew)); exact Kd.R_mono HO518.out (fun _ hk => ⟨⟨hk.1.1.1.1.1.2, ⟨hk.1.1.1.1.2, ⟨hk.1.1.1.2, ⟨hk.1.1.2, hk.1.2⟩⟩⟩⟩, hk.2⟩)) hg hat); have n9_ := Aside0.mk (hb); have n10_ := Aside0.mk (ho); clear HO_9; clear HO_10; clear HO_11; clear HO496; clear HO499; clear HO508; clear HO511; clear HO515; clear HO518; clear HB; clear HO521; have HO_9 := n0_; have HO_10 := n1_; have HO_11 := n2_; have HO496 := n3_; have HO499 := n4_; have HO508 := n5_; have HO511 := n6_; have HO515 := n7_; have HO518 := n8_; have HB := n9_; have HO524 := n10_; clear n0_ n1_ n2_ n3_ n4_ n5_ n6_ n7_ n8_ n9_ n10_; clear ho hb hg hat) | ((with_reducible refine gate_builtin (b := .append) (xs := #[.tmp 148, .tmp 150]) rfl ?_); (try (refine gate_guard (by rfl) ?_; dsimp only)); at_builtin; refine Kd.R_append (Kd.int .i64) (w0 := w) w.heap.size rfl (.tmp 148) (.tmp 150) 44 3 (.int .i64 0) 8 rfl Tryd.underlying44 info3 rfl (by decide) (by omega) v523 y522 a3 [.int .i64 a3] (fun k_ => some k_ ≠ (.slice Ao19 t439.length co19 : Value).ownBlock ∧ some k_ ≠ (.slice Ao93 t442.length co93 : Value).ownBlock ∧ some k_ ≠ (.slice Ao103 t497.length co103 : Value).ownBlock ∧ some k_ ≠ (.slice Ao101 y506.length co101 : Value).ownBlock ∧ some k_ ≠ (.slice Ao104 t509.length co104 : Value).ownBlock ∧ some k_ ≠ (v517 : Value).ownBlock) (fun _ => False) rfl rfl ?aP (fun _ hk => hk.elim) ?aF ?aO ?aB ?aS ?aL ?_; (case aP => exact rfl); (case aB => exact (by repeat (first | (with_reducible first | exact HB.out | apply below_alloc | apply pw_below_drewN | apply below_drew1) | exact HB.out))); (case aF => exact (fun k_ hk => ⟨Kd.fresh' (Kd.R_lt (by (with_reducible repeat (first | apply Kd.R_alloc | apply Kd.R_drewN | apply Kd.R_drew)); exact HO_9.out)) k_ hk, Kd.fresh' (Kd.R_lt (by (with_reducible repeat (first | apply Kd.R_alloc | apply Kd.R_drewN | apply Kd.R_drew)); exact HO_10.out)) k_ hk, Kd.fresh' (Kd.R_lt (by (with_reducible repeat (first | apply Kd.R_alloc | apply Kd.R_drewN | apply Kd.R_drew)); exact HO499.out)) k_ hk, Kd.fresh' (Kd.R_lt (by (with_reducible repeat (first | apply Kd.R_alloc | apply Kd.R_drewN | apply Kd.R_drew)); exact HO508.out)) k_ hk, Kd.fresh' (Kd.R_lt (by (with_reducible repeat (first | apply Kd.R_alloc | apply Kd.R_drewN | apply Kd.R_drew)); exact HO511.out)) k_ hk, Kd.fresh' (Kd.R_lt (by (with_reducible repeat (first | apply Kd.R_alloc | apply Kd.R_drewN | apply Kd.R_drew)); exact HO518.out)) k_ hk⟩)); (case aO => exact (by (with_reducible repeat (first | apply Kd.R_alloc | apply Kd.R_drewN | apply Kd.R_drew)); exact HO524.out)); (case aS => exact (below_size (by repeat (first | (with_reducible first | exact HB.out | apply below_alloc | apply pw_below_drewN | apply below_drew1) | exact HB.out)))); (case aL => have := LMc90.out; omega); intro v526 w111 ho hb hg hat; rw [← Ny525.out] at ho; have n0_ := Aside0.mk (Kd.R_after (ok := (fun k_ => some k_ ≠ (.slice Ao93 t442.length co93 : Value).ownBlock ∧ some k_ ≠ (.slice Ao103 t497.length co103 : Value).ownBlock ∧ some k_ ≠ (.slice Ao101 y506.length co101 : Value).ownBlock ∧ some k_ ≠ (.slice Ao104 t509.length co104 : Value).ownBlock ∧ some k_ ≠ (v517 : Value).ownBlock)) (by (with_reducible repeat (first | apply Kd.R_alloc | apply Kd.R_drewN | apply Kd.R_drew)); exact HO_9.out) hg hat); have n1_ := Aside0.mk (Kd.R_after (ok := (fun k_ => some k_ ≠ (.slice Ao19 t439.length co19 : Value).ownBlock ∧ some k_ ≠ (.slice Ao103 t497.length co103 : Value).ownBlock ∧ some k_ ≠ (.slice Ao101 y506.length co101 : Value).ownBlock ∧ some k_ ≠ (.slice Ao104 t509.length co104 : Value).ownBlock ∧ some k_ ≠ (v517 : Value).ownBlock)) (by (with_reducible repeat (first | apply Kd.R_alloc | apply Kd.R_drewN | apply Kd.R_drew)); exact HO_10.out) hg hat); have n2_ := Aside0.mk (Kd.R_over' (by (with_reducible repeat (first | apply Kd.R_alloc | apply Kd.R_drewN | apply Kd.R_drew)); exact HO_11.out) (Kd.R_typed (by (with_reducible repeat (first | apply Kd.R_alloc | apply Kd.R_drewN | apply Kd.R_drew)); exact HO524.out)) (by decide) hg); have n3_ := Aside0.mk (Kd.R_over' (by (with_reducible repeat (first | apply Kd.R_alloc | apply Kd.R_drewN | apply Kd.R_drew)); exact HO496.out) (Kd.R_typed (by (with_reducible repeat (first | apply Kd.R_alloc | apply Kd.R_drewN | apply Kd.R_drew)); exact HO524.out)) (by decide) hg); have n4_ := Aside0.mk (Kd.R_after (ok := (fun k_ => some k_ ≠ (.slice Ao19 t439.length co19 : Value).ownBlock ∧ some k_ ≠ (.slice Ao93 t442.length co93 : Value).ownBlock ∧ some k_ ≠ (.slice Ao101 y506.length co101 : Value).ownBlock ∧ some k_ ≠ (.slice Ao104 t509.length co104 : Value).ownBlock ∧ some k_ ≠ (v517 : Value).ownBlock)) (by (with_reducible repeat (first | apply Kd.R_alloc | apply Kd.R_drewN | apply Kd.R_drew)); exact HO499.out) hg hat); have n5_ := Aside0.mk (Kd.R_after (ok := (fun k_ => some k_ ≠ (.slice Ao19 t439.length co19 : Value).ownBlock ∧ some k_ ≠ (.slice Ao93 t442.length co93 : Value).ownBlock ∧ some k_ ≠ (.slice Ao103 t497.length co103 : Value).ownBlock ∧ some k_ ≠ (.slice Ao104 t509.length co104 : Value).ownBlock ∧ some k_ ≠ (v517 : Value).ownBlock)) (by (with_reducible repeat (first | apply Kd.R_alloc | apply Kd.R_drewN | apply Kd.R_drew)); exact HO508.out) hg hat); have n6_ := Aside0.mk (Kd.R_after (ok := (fun k_ => some k_ ≠ (.slice Ao19 t439.length co19 : Value).ownBlock ∧ some k_ ≠ (.slice Ao93 t442.length co93 : Value).ownBlock ∧ some k_ ≠ (.slice Ao103 t497.length co103 : Value).ownBlock ∧ some k_ ≠ (.slice Ao101 y506.length co101 : Value).ownBlock ∧ some k_ ≠ (v517 : Value).ownBlock)) (by (with_reducible repeat (first | apply Kd.R_alloc | apply Kd.R_drewN | apply Kd.R_drew)); exact HO511.out) hg hat); have n7_ := Aside0.mk (Kd.R_over' (by (with_reducible repeat (first | apply Kd.R_alloc | apply Kd.R_drewN | apply Kd.R_drew)); exact HO515.out) (Kd.R_typed (by (with_reducible repeat (first | apply Kd.R_alloc | apply Kd.R_drewN | apply Kd.R_drew)); exact HO524.out)) (by decide) hg); have n8_ := Aside0.mk (Kd.R_after (ok := (fun k_ => some k_ ≠ (.slice Ao19 t439.length co19 : Value).ownBlock ∧ some k_ ≠ (.slice Ao93 t442.length co93 : Value).ownBlock ∧ some k_ ≠ (.slice Ao103 t497.length co103 : Value).ownBlock ∧ some k_ ≠ (.slice Ao101 y506.length co101 : Value).ownBlock ∧ some k_ ≠ (.slice Ao104 t509.length co104 : Value).ownBlock)) (by (with_reducible repeat (first | apply Kd.R_alloc | apply Kd.R_drewN | apply Kd.R_drew)); exact HO518.out) hg hat); have n9_ := Aside0.mk (hb); have n10_ := Aside0.mk (ho); clear HO_9; clear HO_10; clear HO_11; clear HO496; clear HO499; clear HO508; clear HO511; clear HO515; clear HO518; clear HB; clear HO524; have HO_9 := n0_; have HO_10 := n1_; have HO_11 := n2_; have HO496 := n3_; have HO499 := n4_; have HO508 := n5_; have HO511 := n6_; have HO515 := n7_; have HO518 := n8_; have HB := n9_; have HO527 := n10_; clear n0_ n1_ n2_ n3_ n4_ n5_ n6_ n7_ n8_ n9_ n10_; clear ho hb hg hat; obtain ⟨Ao112, co112, eo112⟩ := Kd.R_slice HO527.out; subst eo112) | (go_at_call 31; (with_reducible refine (orielref03_Rising.calls kj36 _ _ y525 t528 _ ?side1 ?side2 A91.out).mono ?_); (case side1 => repeat (first | exact (Kd.R_reads' HO527.out).2.2 | (with_reducible refine Kd.C_alloc ?_ _) | (with_reducible refine Kd.C_drewN ?_ _) | (with_reducible refine Kd.C_drew ?_))); (case side2 => exact (Kd.R_reads' HO527.out).2.1); rintro e w113 ⟨v529, rfl, ho0, hb⟩; have n0_ := Aside0.mk (Kd.R_elder' (by (with_reducible repeat (first | apply Kd.R_alloc | apply Kd.R_drewN | apply Kd.R_drew)); exact HO_9.out) (Kd.R_base ho0) hb); have n1_ := Aside0.mk (Kd.R_elder' (by (with_reducible repeat (first | apply Kd.R_alloc | apply Kd.R_drewN | apply Kd.R_drew)); exact HO_10.out) (Kd.R_base ho0) hb); have n2_ := Aside0.mk (Kd.R_below (by (with_reducible repeat (first | apply Kd.R_alloc | apply Kd.R_drewN | apply Kd.R_drew)); exact HO_11.out) hb); have n3_ := Aside0.mk (Kd.R_below (by (with_reducible repeat (first | apply Kd.R_alloc | apply Kd.R_drewN | apply Kd.R_drew)); exact HO496.out) hb); have n4_ := Aside0.mk (Kd.R_elder' (by (with_reducible repeat (first | apply Kd.R_alloc | apply Kd.R_drewN | apply Kd.R_drew)); exact HO499.out) (Kd.R_base ho0) hb); have n5_ := Aside0.mk (Kd.R_elder' (by (with_reducible repeat (first | apply Kd.R_alloc | apply Kd.R_drewN | apply Kd.R_drew)); exact HO508.out) (Kd.R_base ho0) hb); have n6_ := Aside0.mk (Kd.R_elder' (by (with_reducible repeat (first | apply Kd.R_alloc | apply Kd.R_drewN | apply Kd.R_drew)); exact HO511.out) (Kd.R_base ho0) hb); have n7_ := Aside0.mk (Kd.R_below (by (with_reducible repeat (first | apply Kd.R_alloc | apply Kd.R_drewN | apply Kd.R_drew)); exact HO515.out) hb); have n8_ := Aside0.mk (Kd.R_elder' (by (with_reducible repeat (first | apply Kd.R_alloc | apply Kd.R_drewN | apply Kd.R_drew)); exact HO518.out) (Kd.R_base ho0) hb); have n9_ := Aside0.mk (Kd.R_elder' (by (with_reducible repeat (first | apply Kd.R_alloc | apply Kd.R_drewN | apply Kd.R_drew)); exact HO527.out) (Kd.R_base ho0) hb); have n10_ := Aside0.mk (Kd.R_lower (Kd.R_new' (Kd.R_new' (Kd.R_new' (Kd.R_new' (Kd.R_new' (Kd.R_new' (Kd.R_new' ho0 (Kd.R_lt (by (with_reducible repeat (first | apply Kd.R_alloc | apply Kd.R_drewN | apply Kd.R_drew)); exact HO_9.out))) (Kd.R_lt (by (with_reducible repeat (first | apply Kd.R_alloc | apply Kd.R_drewN | apply Kd.R_drew)); exact HO_10.out))) (Kd.R_lt (by (with_reducible repeat (first | apply Kd.R_alloc | apply Kd.R_drewN | apply Kd.R_drew)); exact HO499.out))) (Kd.R_lt (by (with_reducible repeat (first | apply Kd.R_alloc | apply Kd.R_drewN | apply Kd.R_drew)); exact HO508.out))) (Kd.R_lt (by (with_reducible repeat (first | apply Kd.R_alloc | apply Kd.R_drewN | apply Kd.R_drew)); exact HO511.out))) (Kd.R_lt (by (with_reducible repeat (first | apply Kd.R_alloc | apply Kd.R_drewN | apply Kd.R_drew)); exact HO518.out))) (Kd.R_lt (by (with_reducible repeat (first | apply Kd.R_alloc | apply Kd.R_drewN | apply Kd.R_drew)); exact HO527.out))) (below_size (by repeat (first | (with_reducible first | exact HB.out | apply below_alloc | apply pw_below_drewN | apply below_drew1) | exact HB.out)))); have n11_ := Aside0.mk (below_step (by repeat (first | (with_reducible first | exact HB.out | apply below_alloc | apply pw_below_drewN | apply below_drew1) | exact HB.out)) hb); clear HO_9; clear HO_10; clear HO_11; clear HO496; clear HO499; clear HO508; clear HO511; clear HO515; clear HO518; clear HO527; clear HB; have HO_9 := n0_; have HO_10 := n1_; have HO_11 := n2_; have HO496 := n3_; have HO499 := n4_; have HO508 := n5_; have HO511 := n6_; have HO515 := n7_; have HO518 := n8_; have HO527 := n9_; have HO530 := n10_; have HB := n11_; clear n0_ n1_ n2_ n3_ n4_ n5_ n6_ n7_ n8_ n9_ n10_ n11_; (try clear hb); (try clear hb2); (try clear hk); (try clear hi); (try clear ho0); obtain ⟨Ao114, co114, eo114⟩ := Kd.R_slice HO518.out; subst eo114; obtain ⟨Ao115, co115, eo115⟩ := Kd.R_slice HO530.out; subst eo115) | (go_at_call 22; (with_reducible refine (oriellaw01_Ints.calls kj36 _ _ t516 _ _ t528 t531 _ ?side1 ?side2 ?side3 ?side4 A92.out).mono ?_); (case side1 => repeat (first | exact (Kd.R_reads' HO518.out).2.2 | (with_reducible refine Kd.C_alloc ?_ _) | (with_reducible refine Kd.C_drewN ?_ _) | (with_reducible refine Kd.C_drew ?_))); (case side2 => exact (Kd.R_reads' HO518.out).2.1); (case side3 => repeat (first | exact (Kd.R_reads' HO530.out).2.2 | (with_reducible refine Kd.C_alloc ?_ _) | (with_reducible refine Kd.C_drewN ?_ _) | (with_reducible refine Kd.C_drew ?_))); (case side4 => exact (Kd.R_reads' HO530.out).2.1); rintro e w' ⟨rfl, ⟨nd, rfl⟩⟩; (try first | exact ⟨rfl, _, World.drewN_drewN _ _ _⟩ | exact ⟨rfl, _, Eq.trans (World.drewN_drewN _ _ _) (congrArg (World.drewN _) (Nat.add_assoc _ _ _))⟩)))
                                          go_meet
                                          case rel => exact ⟨_, (!t531), (by first | rfl | (simp; done) | (simp [*]; done)), H', ⟨by have := HJ4.out; have := HK2.out; have := HK3.out; have := HJ36.out; first | omega | exact Nat.le_refl _⟩, ⟨by (with_reducible repeat (first | apply Kd.R_alloc | apply Kd.R_drewN | apply Kd.R_drew)); exact Kd.R_mono HO_11.out (fun _ hk => trivial)⟩, ⟨by repeat (first | (with_reducible first | exact HB.out | apply below_alloc | apply pw_below_drewN | apply below_drew1) | exact HB.out)⟩⟩
                                        · rw [if_neg c90] at H
                                          exact absurd H (by simp)
                                      · rw [if_neg c89] at H
                                        exact absurd H (by simp)
                                    · replace c86 := Bool.eq_false_iff.mpr c86
                                      subst c86
                                      have H1 : (none) = some r := by rw [if_neg (show ¬ (false = true) by decide)] at H; exact H
                                      clear H
                                      have H := H1
                                      clear H1
                                      exact absurd H (by simp)
                                  · rw [if_neg c83] at H
                                    exact absurd H (by simp)
                                · rw [if_neg c82] at H
                                  exact absurd H (by simp)
                              · rw [if_neg c79] at H
                                have c79b0 : decide ((wrap64 ((t439.length : Int) + (t442.length : Int))) ≤ 300) = false := decide_eq_false c79
                                clear c79
                                (first | rw [c79b0] | (simp only [i64_w, i32_w]; rw [c79b0]) | skip)
                                have H' := Aside0.mk H
                                clear H
                                obtain ⟨Ao116, co116, eo116⟩ := Kd.R_slice HO_10.out
                                subst eo116
                                go_wp2
                                repeat (go_quiet (fail); try go_wp2)
                                go_meet
                                case rel => exact ⟨_, (false), (by first | rfl | (simp; done) | (simp [*]; done)), H', ⟨by have := HJ4.out; have := HK2.out; have := HK3.out; have := HJ36.out; first | omega | exact Nat.le_refl _⟩, ⟨by (with_reducible repeat (first | apply Kd.R_alloc | apply Kd.R_drewN | apply Kd.R_drew)); exact HO_11.out⟩, ⟨by repeat (first | (with_reducible first | exact HB.out | apply below_alloc | apply pw_below_drewN | apply below_drew1) | exact HB.out)⟩⟩
                            case rest =>
                              clear HC78
                              try clear c1
                              try clear c2
                              try clear p2
                              try clear c3
                              try clear c4
                              try clear p4
                              try clear q4
                              try clear hx4
                              try clear c5
                              try clear c6
                              try clear c6b0
                              try clear c6b1
                              try clear p6
                              try clear c7
                              try clear c7b0
                              try clear c7b1
                              try clear c8
                              try clear c9
                              try clear c13
                              try clear c20
                              try clear c20b0
                              try clear c21
                              try clear c21b0
                              try clear c22
                              try clear c22b0
                              try clear c24
                              try clear c26
                              try clear c31
                              try clear c31b0
                              try clear c32
                              try clear c32b0
                              try clear c33
                              try clear c33b0
                              try clear c34
                              try clear c34b0
                              try clear c34b1
                              try clear c35
                              try clear c40
                              try clear c42
                              try clear c42b0
                              try clear c42b1
                              try clear c45
                              try clear c45b0
                              try clear c45b1
                              try clear c45b2
                              try clear p45
                              try clear q45
                              try clear hx45
                              try clear c49
                              try clear c53
                              try clear p64
                              try clear c77
                              try clear c79
                              try clear c79b0
                              try clear c82
                              try clear c83
                              try clear c86
                              try clear c89
                              try clear c90
                              try clear hx451_0
                              try clear hx459_0
                              try clear p2
                              try clear p4
                              try clear p45
                              try clear p451
                              try clear p459
                              try clear p6
                              try clear p64
                              try clear q4
                              try clear q45
                              try clear q451
                              try clear q459
                              obtain ⟨kq, x156_77, rfl, HA, HJ77, HO_11, HB⟩ := hcut
                              cases kq with
                              | zero => exact absurd HA.out (by simp [oriellaw03_PackSets.j4])
                              | succ kj77 =>
                                have H := HA.out
                                clear HA
                                simp only [oriellaw03_PackSets.j4] at H
                                by_cases c117 : x156_77 = true
                                · subst c117
                                  have H1 : (none) = some r := by rw [if_pos rfl] at H; exact H
                                  clear H
                                  have H := H1
                                  clear H1
                                  exact absurd H (by simp)
                                · replace c117 := Bool.eq_false_iff.mpr c117
                                  subst c117
                                  have H1 : (oriellaw03_PackSets.l2 kj77 l0 y448 (y448.length : Int) 0) = some r := by rw [if_neg (show ¬ (false = true) by decide)] at H; exact H
                                  clear H
                                  have H := H1
                                  clear H1
                                  have H' := Aside0.mk H
                                  clear H
                                  obtain ⟨Ao118, co118, eo118⟩ := Kd.R_slice HO_11.out
                                  subst eo118
                                  go_wp2
                                  repeat (go_quiet (fail); try go_wp2)
                                  go_loopg [159] kj77 (fun kq v159 w' => ∃ (x159_6 : Int), v159 = .int .i64 x159_6 ∧ Aside0 (oriellaw03_PackSets.l2 kq l0 y448 (y448.length : Int) x159_6 = some r) ∧ Aside0 (kq ≤ kj77) ∧ Aside0 (Kd.R (Kd.int .u64) 23 w' w.heap.size (fun _ => True) (.slice Ao118 y448.length co118) y448) ∧ Aside0 (Below w.heap.size w w'))
                                  case atStart => exact ⟨(0), (by first | rfl | (simp; done) | (simp [*]; done)), H', ⟨Nat.le_refl _⟩, ⟨by (with_reducible repeat (first | apply Kd.R_alloc | apply Kd.R_drewN | apply Kd.R_drew)); exact HO_11.out⟩, ⟨by repeat (first | (with_reducible first | exact HB.out | apply below_alloc | apply pw_below_drewN | apply below_drew1) | exact HB.out)⟩⟩
                                  case round =>
                                    clear H'
                                    try clear c1
                                    try clear c2
                                    try clear p2
                                    try clear c3
                                    try clear c4
                                    try clear p4
                                    try clear q4
                                    try clear hx4
                                    try clear c5
                                    try clear c6
                                    try clear c6b0
                                    try clear c6b1
                                    try clear p6
                                    try clear c7
                                    try clear c7b0
                                    try clear c7b1
                                    try clear c8
                                    try clear c9
                                    try clear c11
                                    try clear c13
                                    try clear c20
                                    try clear c20b0
                                    try clear c21
                                    try clear c21b0
                                    try clear c22
                                    try clear c22b0
                                    try clear c24
                                    try clear c26
                                    try clear c31
                                    try clear c31b0
                                    try clear c32
                                    try clear c32b0
                                    try clear c33
                                    try clear c33b0
                                    try clear c34
                                    try clear c34b0
                                    try clear c34b1
                                    try clear c35
                                    try clear c40
                                    try clear c42
                                    try clear c42b0
                                    try clear c42b1
                                    try clear c45
                                    try clear c45b0
                                    try clear c45b1
                                    try clear c45b2
                                    try clear p45
                                    try clear q45
                                    try clear hx45
                                    try clear c49
                                    try clear c53
                                    try clear p64
                                    try clear c77
                                    try clear c79
                                    try clear c79b0
                                    try clear c82
                                    try clear c83
                                    try clear c86
                                    try clear c89
                                    try clear c90
                                    try clear c117
                                    try clear hx451_0
                                    try clear hx459_0
                                    try clear p2
                                    try clear p4
                                    try clear p45
                                    try clear p451
                                    try clear p459
                                    try clear p6
                                    try clear p64
                                    try clear q4
                                    try clear q45
                                    try clear q451
                                    try clear q459
                                    obtain ⟨x159_6, rfl, HA, HK6, HO_11, HB⟩ := hrel
                                    cases gk with
                                    | zero => exact absurd HA.out (by simp [oriellaw03_PackSets.l2])
                                    | succ k6 =>
                                      have H := HA.out
                                      clear HA
                                      simp only [oriellaw03_PackSets.l2] at H
                                      by_cases c119 : x159_6 < (y448.length : Int)
                                      · rw [if_pos c119] at H
                                        have c119b0 : decide (x159_6 < (y448.length : Int)) = true := decide_eq_true c119
                                        clear c119
                                        by_cases c120 : 0 ≤ x159_6
                                        · rw [if_pos c120] at H
                                          have c120b0 : decide (0 ≤ x159_6) = true := decide_eq_true c120
                                          clear c120
                                          by_cases c121 : x159_6 < (y448.length : Int)
                                          · rw [if_pos c121] at H
                                            have c121b0 : decide (x159_6 < (y448.length : Int)) = true := decide_eq_true c121
                                            clear c121
                                            by_cases c122 : x159_6 < (l0.length : Int)
                                            · rw [if_pos c122] at H
                                              have c122b0 : decide (x159_6 < (l0.length : Int)) = true := decide_eq_true c122
                                              clear c122
                                              by_cases c123 : (rd y448 x159_6) = (rd l0 x159_6)
                                              · rw [if_pos c123] at H
                                                have c123b0 : ((rd y448 x159_6) == (rd l0 x159_6)) = true := beq_iff_eq.mpr c123
                                                have c123b1 : ((rd y448 x159_6) != (rd l0 x159_6)) = false := bne_eq_false_iff_eq.mpr c123
                                                clear c123
                                                have H' := Aside0.mk H
                                                clear H
                                                have p532 : 0 ≤ (x159_6 : Int) := of_decide_eq_true (by first | (with_reducible assumption) | assumption)
                                                have q532 : x159_6 < (y448.length : Int) := of_decide_eq_true (by first | (with_reducible assumption) | assumption)
                                                obtain ⟨ad532, e532, hx532_0⟩ := Kd.at_int (Kd.R_reads' HO_11.out).2.2 x159_6 p532 q532
                                                cases e532
                                                replace p532 := eq_true p532
                                                replace q532 := eq_true q532
                                                have p533 : 0 ≤ (x159_6 : Int) := of_decide_eq_true (by first | (with_reducible assumption) | assumption)
                                                have q533 : x159_6 < (l0.length : Int) := of_decide_eq_true (by first | (with_reducible assumption) | assumption)
                                                obtain ⟨ad533, e533, hx533_0⟩ := Kd.at_int HR0.out x159_6 p533 q533
                                                cases e533
                                                replace hx533_0 := (HB.out.cell (World.block_lt_of_cell? w _ hx533_0)).trans hx533_0
                                                replace p533 := eq_true p533
                                                replace q533 := eq_true q533
                                                go_wp2
                                                repeat (go_quiet (fail); try go_wp2)
                                                go_roundg k6
                                                case measure => have := HJ4.out; have := HK2.out; have := HK3.out; have := HJ36.out; have := HJ77.out; have := HK6.out; omega
                                                case rel => exact ⟨(wrap64 (x159_6 + 1)), (by first | rfl | (simp; done) | (simp [*]; done)), H', ⟨by have := HJ4.out; have := HK2.out; have := HK3.out; have := HJ36.out; have := HJ77.out; have := HK6.out; omega⟩, ⟨by (with_reducible repeat (first | apply Kd.R_alloc | apply Kd.R_drewN | apply Kd.R_drew)); exact HO_11.out⟩, ⟨by repeat (first | (with_reducible first | exact HB.out | apply below_alloc | apply pw_below_drewN | apply below_drew1) | exact HB.out)⟩⟩
                                              · rw [if_neg c123] at H
                                                exact absurd H (by simp)
                                            · rw [if_neg c122] at H
                                              exact absurd H (by simp)
                                          · rw [if_neg c121] at H
                                            exact absurd H (by simp)
                                        · rw [if_neg c120] at H
                                          exact absurd H (by simp)
                                      · rw [if_neg c119] at H
                                        have c119b0 : decide (x159_6 < (y448.length : Int)) = false := decide_eq_false c119
                                        clear c119
                                        replace H := Option.bind_eq_some_iff.mp H
                                        obtain ⟨t534, A1240, H⟩ := H
                                        replace H : (some t534) = some r := H
                                        have A124 := Aside0.mk A1240
                                        clear A1240
                                        obtain rfl := Option.some.inj H
                                        go_wp2_with (first | (go_at_call 12; (with_reducible refine (oriellaw03_alive.calls k6  t534 _ ?sideT A124.out).mono ?_); (case sideT => first | exact HT.out | exact TabW.below HT.out (by repeat (first | (with_reducible first | exact HB.out | apply below_alloc | apply pw_below_drewN | apply below_drew1) | exact HB.out))); rintro e w125 ⟨rfl, hb⟩; have n0_ := Aside0.mk (Kd.R_below (by (with_reducible repeat (first | apply Kd.R_alloc | apply Kd.R_drewN | apply Kd.R_drew)); exact HO_11.out) hb); have n1_ := Aside0.mk (below_step (by repeat (first | (with_reducible first | exact HB.out | apply below_alloc | apply pw_below_drewN | apply below_drew1) | exact HB.out)) hb); clear HO_11; clear HB; have HO_11 := n0_; have HB := n1_; clear n0_ n1_; (try clear hb); (try clear hb2); (try clear hk); (try clear hi)))
                                        repeat (go_quiet (first | (go_at_call 12; (with_reducible refine (oriellaw03_alive.calls k6  t534 _ ?sideT A124.out).mono ?_); (case sideT => first | exact HT.out | exact TabW.below HT.out (by repeat (first | (with_reducible first | exact HB.out | apply below_alloc | apply pw_below_drewN | apply below_drew1) | exact HB.out))); rintro e w125 ⟨rfl, hb⟩; have n0_ := Aside0.mk (Kd.R_below (by (with_reducible repeat (first | apply Kd.R_alloc | apply Kd.R_drewN | apply Kd.R_drew)); exact HO_11.out) hb); have n1_ := Aside0.mk (below_step (by repeat (first | (with_reducible first | exact HB.out | apply below_alloc | apply pw_below_drewN | apply below_drew1) | exact HB.out)) hb); clear HO_11; clear HB; have HO_11 := n0_; have HB := n1_; clear n0_ n1_; (try clear hb); (try clear hb2); (try clear hk); (try clear hi))); try go_wp2_with (first | (go_at_call 12; (with_reducible refine (oriellaw03_alive.calls k6  t534 _ ?sideT A124.out).mono ?_); (case sideT => first | exact HT.out | exact TabW.below HT.out (by repeat (first | (with_reducible first | exact HB.out | apply below_alloc | apply pw_below_drewN | apply below_drew1) | exact HB.out))); rintro e w125 ⟨rfl, hb⟩; have n0_ := Aside0.mk (Kd.R_below (by (with_reducible repeat (first | apply Kd.R_alloc | apply Kd.R_drewN | apply Kd.R_drew)); exact HO_11.out) hb); have n1_ := Aside0.mk (below_step (by repeat (first | (with_reducible first | exact HB.out | apply below_alloc | apply pw_below_drewN | apply below_drew1) | exact HB.out)) hb); clear HO_11; clear HB; have HO_11 := n0_; have HB := n1_; clear n0_ n1_; (try clear hb); (try clear hb2); (try clear hk); (try clear hi))))
                                        go_ret
                                        exact ⟨by first | rfl | (simp [errW_none, errW_some] <;> rfl) | (simp [*, errW_none, errW_some] <;> rfl), by repeat (first | (with_reducible first | exact HB.out | apply below_alloc | apply pw_below_drewN | apply below_drew1) | exact HB.out)⟩
        · rw [if_neg c13] at H
          exact absurd H (by simp)

end Go.Proofs.YtjekpecobkaaoaaDoor.PAll
