-- Written by ownprint.py, a program of this session (out of the kit's print, with contracts of the session's own).
import Derived.Test.YtclcnglamlegiaaPMLx0
import Derived.Test.YtclcnglamlegiaaPMLx1
import Derived.Test.YtclcnglamlegiaaPMLx3
import Derived.Test.YtclcnglamlegiaaPMLx4
import Derived.Test.YtclcnglamlegiaaPMLx13
import Derived.Test.YtclcnglamlegiaaPMLx15
namespace Go.Proofs.Ytclcnglamlegiaa.PML
open Go.RowKit Go.Proofs.YtclcnglamlegiaaW.PrintWords Go.Proofs.YtclcnglamlegiaaW.PrintLast Go.Proofs.YtclcnglamlegiaaW.PrintMore
attribute [local go_sem] max2_int min2_int max_two min_two max_three min_three max_four min_four   -- for this text's walks alone
set_option linter.unusedVariables false
set_option linter.unusedSimpArgs false
attribute [local go_sem high] eqA30
/-! ### oriellaw35_MergeLittle: function 3 -/
mutual
def oriellaw35_MergeLittle.j0 : Nat → List (S36) → List (List (S34)) → Bool → Option (Bool)
 | 0, _, _, _ => none
 | k + 1, x0, x1, x19 => if x19 = true then ((oriellaw35_alive.f k).bind fun t178 => (some t178)) else ((merge_Net.f k x0 x1).bind fun bt179 => (if (!(bt179.2.2.1 == 0) || (!(bt179.2.2.2.1 == 0) || (!(bt179.2.2.2.2 == 0)))) = true then (if (bt179.1.length : Int) = 0 then ((oriellaw35_alive.f k).bind fun t187 => (some t187)) else (none)) else (oriellaw35_MergeLittle.l0 k x0 (-1) bt179.1 (bt179.1.length : Int) 0)))
def oriellaw35_MergeLittle.l0 : Nat → List (S36) → Int → List (S34) → Int → Int → Option (Bool)
 | 0, _, _, _, _, _ => none
 | k + 1, x0, x8, x37, x38, x39 => if x39 < x38 then (if 0 ≤ x39 then (if x39 < (x37.length : Int) then (if ((rd_T34 x37 x39).f0) ≤ x8 then (none) else (if ((rd_T34 x37 x39).f0) ≥ (x0.length : Int) then (none) else (if ((rd_T34 x37 x39).f1) < 0 then (none) else (if ((rd_T34 x37 x39).f2) < ((rd_T34 x37 x39).f1) then (none) else (if 0 ≤ ((rd_T34 x37 x39).f0) then (if ((rd_T34 x37 x39).f0) < (x0.length : Int) then (oriellaw35_MergeLittle.j2 k x0 x37 x38 x39 (decide (((rd_T34 x37 x39).f2) > (((rd_T36 x0 ((rd_T34 x37 x39).f0)).f1).size : Int))) ((rd_T34 x37 x39).f0) ((rd_T34 x37 x39).f1) ((rd_T34 x37 x39).f2) ((rd_T34 x37 x39).f3)) else (none)) else (none)))))) else (none)) else (none)) else ((oriellaw35_alive.f k).bind fun t188 => (some t188))
def oriellaw35_MergeLittle.j2 : Nat → List (S36) → List (S34) → Int → Int → Bool → Int → Int → Int → ByteArray → Option (Bool)
 | 0, _, _, _, _, _, _, _, _, _ => none
 | k + 1, x0, x37, x38, x39, x77, x191000, x191001, x191002, x191003 => if x77 = true then (none) else (if 0 ≤ x191000 then (if x191000 < (x0.length : Int) then (if 0 ≤ x191001 then (if x191001 ≤ x191002 then (if x191002 ≤ (((rd_T36 x0 x191000).f1).size : Int) then (if (((rd_T36 x0 x191000).f1).extract (x191001 : Int).toNat (x191002 : Int).toNat).toList = x191003.toList then (none) else (if (((rd_T36 x0 x191000).f1).extract (x191001 : Int).toNat (x191002 : Int).toNat).toList = ([] : List UInt8) then (oriellaw35_MergeLittle.l0 k x0 x191000 x37 x38 (wrap64 (x39 + 1))) else (if x191003.toList = ([] : List UInt8) then (oriellaw35_MergeLittle.l0 k x0 x191000 x37 x38 (wrap64 (x39 + 1))) else (if 0 < ((((rd_T36 x0 x191000).f1).extract (x191001 : Int).toNat (x191002 : Int).toNat).size : Int) then (if 0 < (x191003.size : Int) then (if (bt (((rd_T36 x0 x191000).f1).extract (x191001 : Int).toNat (x191002 : Int).toNat) 0) = (bt x191003 0) then (none) else (if 0 ≤ (wrap64 (((((rd_T36 x0 x191000).f1).extract (x191001 : Int).toNat (x191002 : Int).toNat).size : Int) - 1)) then (if (wrap64 (((((rd_T36 x0 x191000).f1).extract (x191001 : Int).toNat (x191002 : Int).toNat).size : Int) - 1)) < ((((rd_T36 x0 x191000).f1).extract (x191001 : Int).toNat (x191002 : Int).toNat).size : Int) then (if 0 ≤ (wrap64 ((x191003.size : Int) - 1)) then (if (wrap64 ((x191003.size : Int) - 1)) < (x191003.size : Int) then (if (bt (((rd_T36 x0 x191000).f1).extract (x191001 : Int).toNat (x191002 : Int).toNat) (wrap64 (((((rd_T36 x0 x191000).f1).extract (x191001 : Int).toNat (x191002 : Int).toNat).size : Int) - 1))) = (bt x191003 (wrap64 ((x191003.size : Int) - 1))) then (none) else (oriellaw35_MergeLittle.l0 k x0 x191000 x37 x38 (wrap64 (x39 + 1)))) else (none)) else (none)) else (none)) else (none))) else (none)) else (none))))) else (none)) else (none)) else (none)) else (none)) else (none))
end
def oriellaw35_MergeLittle.f (k : Nat) (l0 : List (S36)) (l1 : List (List (S34))) : Option (Bool) := (orielref10_Few.f k l0).bind fun t176 => (if t176 = true then ((orielref35_Few.f k l1).bind fun t177 => (oriellaw35_MergeLittle.j0 k l0 l1 (!t177))) else (oriellaw35_MergeLittle.j0 k l0 l1 true))
theorem oriellaw35_MergeLittle.mono_l : ∀ k, (∀ y0 y1 y2, LeO (oriellaw35_MergeLittle.j0 k y0 y1 y2) (oriellaw35_MergeLittle.j0 (k + 1) y0 y1 y2)) ∧ (∀ y0 y1 y2 y3 y4, LeO (oriellaw35_MergeLittle.l0 k y0 y1 y2 y3 y4) (oriellaw35_MergeLittle.l0 (k + 1) y0 y1 y2 y3 y4)) ∧ (∀ y0 y1 y2 y3 y4 y5 y6 y7 y8, LeO (oriellaw35_MergeLittle.j2 k y0 y1 y2 y3 y4 y5 y6 y7 y8) (oriellaw35_MergeLittle.j2 (k + 1) y0 y1 y2 y3 y4 y5 y6 y7 y8))
 | 0 => ⟨fun _ _ _ r h => by simp [oriellaw35_MergeLittle.j0] at h, fun _ _ _ _ _ r h => by simp [oriellaw35_MergeLittle.l0] at h, fun _ _ _ _ _ _ _ _ _ r h => by simp [oriellaw35_MergeLittle.j2] at h⟩
 | k + 1 => by
  obtain ⟨ih0, ih1, ih2⟩ := oriellaw35_MergeLittle.mono_l k
  refine ⟨?_, ?_, ?_⟩
  ·intro y0 y1 y2
   unfold oriellaw35_MergeLittle.j0
   repeat' first
   | (with_reducible exact ih0 _ _ _)
   | (with_reducible exact ih1 _ _ _ _ _)
   | (with_reducible exact ih2 _ _ _ _ _ _ _ _ _)
   | (with_reducible exact merge_Net.mono _ _ _)
   | (with_reducible exact oriellaw35_alive.mono _)
   | (with_reducible exact orielref10_Few.mono _ _)
   | (with_reducible exact orielref35_Few.mono _ _)
   | (with_reducible exact LeO.refl _)
   | (with_reducible exact LeO.none _)
   | (with_reducible refine LeO.ite ?_ ?_)
   | (with_reducible refine LeO.bind ?_ (fun _ => ?_))
   | exact ih0 _ _ _
   | exact ih1 _ _ _ _ _
   | exact ih2 _ _ _ _ _ _ _ _ _
   | exact merge_Net.mono _ _ _
   | exact oriellaw35_alive.mono _
   | exact orielref10_Few.mono _ _
   | exact orielref35_Few.mono _ _
   | exact LeO.none _
   | refine LeO.ite ?_ ?_
   | refine LeO.bind ?_ (fun _ => ?_)
  ·intro y0 y1 y2 y3 y4
   unfold oriellaw35_MergeLittle.l0
   repeat' first
   | (with_reducible exact ih0 _ _ _)
   | (with_reducible exact ih1 _ _ _ _ _)
   | (with_reducible exact ih2 _ _ _ _ _ _ _ _ _)
   | (with_reducible exact merge_Net.mono _ _ _)
   | (with_reducible exact oriellaw35_alive.mono _)
   | (with_reducible exact orielref10_Few.mono _ _)
   | (with_reducible exact orielref35_Few.mono _ _)
   | (with_reducible exact LeO.refl _)
   | (with_reducible exact LeO.none _)
   | (with_reducible refine LeO.ite ?_ ?_)
   | (with_reducible refine LeO.bind ?_ (fun _ => ?_))
   | exact ih0 _ _ _
   | exact ih1 _ _ _ _ _
   | exact ih2 _ _ _ _ _ _ _ _ _
   | exact merge_Net.mono _ _ _
   | exact oriellaw35_alive.mono _
   | exact orielref10_Few.mono _ _
   | exact orielref35_Few.mono _ _
   | exact LeO.none _
   | refine LeO.ite ?_ ?_
   | refine LeO.bind ?_ (fun _ => ?_)
  ·intro y0 y1 y2 y3 y4 y5 y6 y7 y8
   unfold oriellaw35_MergeLittle.j2
   repeat' first
   | (with_reducible exact ih0 _ _ _)
   | (with_reducible exact ih1 _ _ _ _ _)
   | (with_reducible exact ih2 _ _ _ _ _ _ _ _ _)
   | (with_reducible exact merge_Net.mono _ _ _)
   | (with_reducible exact oriellaw35_alive.mono _)
   | (with_reducible exact orielref10_Few.mono _ _)
   | (with_reducible exact orielref35_Few.mono _ _)
   | (with_reducible exact LeO.refl _)
   | (with_reducible exact LeO.none _)
   | (with_reducible refine LeO.ite ?_ ?_)
   | (with_reducible refine LeO.bind ?_ (fun _ => ?_))
   | exact ih0 _ _ _
   | exact ih1 _ _ _ _ _
   | exact ih2 _ _ _ _ _ _ _ _ _
   | exact merge_Net.mono _ _ _
   | exact oriellaw35_alive.mono _
   | exact orielref10_Few.mono _ _
   | exact orielref35_Few.mono _ _
   | exact LeO.none _
   | refine LeO.ite ?_ ?_
   | refine LeO.bind ?_ (fun _ => ?_)
theorem oriellaw35_MergeLittle.mono : ∀ a0 a1 k, LeO (oriellaw35_MergeLittle.f k a0 a1) (oriellaw35_MergeLittle.f (k + 1) a0 a1) := by
 intro a0 a1 k
 obtain ⟨ih0, ih1, ih2⟩ := oriellaw35_MergeLittle.mono_l k
 unfold oriellaw35_MergeLittle.f
 repeat' first
   | (with_reducible exact ih0 _ _ _)
   | (with_reducible exact ih1 _ _ _ _ _)
   | (with_reducible exact ih2 _ _ _ _ _ _ _ _ _)
   | (with_reducible exact merge_Net.mono _ _ _)
   | (with_reducible exact oriellaw35_alive.mono _)
   | (with_reducible exact orielref10_Few.mono _ _)
   | (with_reducible exact orielref35_Few.mono _ _)
   | (with_reducible exact LeO.refl _)
   | (with_reducible exact LeO.none _)
   | (with_reducible refine LeO.ite ?_ ?_)
   | (with_reducible refine LeO.bind ?_ (fun _ => ?_))
   | exact ih0 _ _ _
   | exact ih1 _ _ _ _ _
   | exact ih2 _ _ _ _ _ _ _ _ _
   | exact merge_Net.mono _ _ _
   | exact oriellaw35_alive.mono _
   | exact orielref10_Few.mono _ _
   | exact orielref35_Few.mono _ _
   | exact LeO.none _
   | refine LeO.ite ?_ ?_
   | refine LeO.bind ?_ (fun _ => ?_)
set_option maxHeartbeats 8000000 in
set_option maxRecDepth 100000 in
theorem oriellaw35_MergeLittle.calls (k : Nat) (A0 : Option Addr) (c0 : Nat) (l0 : List (S36)) (A1 : Option Addr) (c1 : Nat) (l1 : List (List (S34))) (r : Bool) (w : World) (hr0 : Kd.C k36 w A0 l0.length l0) (hc0 : l0.length ≤ c0) (hr1 : Kd.C (Kd.slice 34 k34) w A1 l1.length l1) (hc1 : l1.length ≤ c1) (h : oriellaw35_MergeLittle.f k l0 l1 = some r) :
  Calls Try.prog 3 #[.slice A0 l0.length c0, .slice A1 l1.length c1] w fun e w' => e = .returned (.bool r) ∧ Below w.heap.size w w' := by
 have hu30 := Try.underlying30
 have hu34 := Try.underlying34
 have HR0 := Aside0.mk hr0
 have HC0 := Aside0.mk hc0
 clear hr0 hc0
 have HR1 := Aside0.mk hr1
 have HC1 := Aside0.mk hc1
 clear hr1 hc1
 have HB := Aside0.mk (Below.refl w.heap.size w)
 have H : ((orielref10_Few.f k l0).bind fun t176 => (if t176 = true then ((orielref35_Few.f k l1).bind fun t177 => (oriellaw35_MergeLittle.j0 k l0 l1 (!t177))) else (oriellaw35_MergeLittle.j0 k l0 l1 true))) = some r := h
 clear h
 have HC3 := Aside0.mk H
 clear H
 go_enter Try.func3, Try.ntmps3
 go_upto_region 1 with (fail)
 repeat (go_quiet (fail); go_upto_region 1 with (fail))
 go_cut [19] (fun v19 wc => ∃ (kq : Nat) (x19_2 : Bool), v19 = .bool x19_2 ∧ Aside0 (oriellaw35_MergeLittle.j0 kq l0 l1 x19_2 = some r) ∧ Aside0 (kq ≤ k) ∧ Aside0 (Below w.heap.size w wc))
 case first =>
  have H := HC3.out
  clear HC3
  replace H := Option.bind_eq_some_iff.mp H
  obtain ⟨t176, A40, H⟩ := H
  replace H : (if t176 = true then ((orielref35_Few.f k l1).bind fun t177 => (oriellaw35_MergeLittle.j0 k l0 l1 (!t177))) else (oriellaw35_MergeLittle.j0 k l0 l1 true)) = some r := H
  have A4 := Aside0.mk A40
  clear A40
  by_cases c5 : t176 = true
  ·subst c5
   have H1 : ((orielref35_Few.f k l1).bind fun t177 => (oriellaw35_MergeLittle.j0 k l0 l1 (!t177))) = some r := by rw [if_pos rfl] at H; exact H
   clear H
   have H := H1
   clear H1
   replace H := Option.bind_eq_some_iff.mp H
   obtain ⟨t177, A60, H⟩ := H
   replace H : (oriellaw35_MergeLittle.j0 k l0 l1 (!t177)) = some r := H
   have A6 := Aside0.mk A60
   clear A60
   have H' := Aside0.mk H
   clear H
   go_wp2_with (first | (go_at_call 7; (with_reducible refine (orielref10_Few.calls k _ _ l0 true _ ?side1 ?side2 A4.out).mono ?_); (case side1 => repeat (first | exact (Kd.C_below HR0.out HB.out) | (with_reducible refine Kd.C_alloc ?_ _) | (with_reducible refine Kd.C_drewN ?_ _) | (with_reducible refine Kd.C_drew ?_))); (case side2 => exact HC0.out); rintro e w7 ⟨rfl, hb⟩; have n0_ := Aside0.mk (below_step (by repeat (first | (with_reducible first | exact HB.out | apply below_alloc | apply pw_below_drewN | apply below_drew1) | exact HB.out)) hb); clear HB; have HB := n0_; clear n0_; (try clear hb); (try clear hb2); (try clear hk); (try clear hi)) | (go_at_call 8; (with_reducible refine (orielref35_Few.calls k _ _ l1 t177 _ ?side1 ?side2 A6.out).mono ?_); (case side1 => repeat (first | exact (Kd.C_below HR1.out HB.out) | (with_reducible refine Kd.C_alloc ?_ _) | (with_reducible refine Kd.C_drewN ?_ _) | (with_reducible refine Kd.C_drew ?_))); (case side2 => exact HC1.out); rintro e w8 ⟨rfl, hb⟩; have n0_ := Aside0.mk (below_step (by repeat (first | (with_reducible first | exact HB.out | apply below_alloc | apply pw_below_drewN | apply below_drew1) | exact HB.out)) hb); clear HB; have HB := n0_; clear n0_; (try clear hb); (try clear hb2); (try clear hk); (try clear hi)))
   repeat (go_quiet (first | (go_at_call 7; (with_reducible refine (orielref10_Few.calls k _ _ l0 true _ ?side1 ?side2 A4.out).mono ?_); (case side1 => repeat (first | exact (Kd.C_below HR0.out HB.out) | (with_reducible refine Kd.C_alloc ?_ _) | (with_reducible refine Kd.C_drewN ?_ _) | (with_reducible refine Kd.C_drew ?_))); (case side2 => exact HC0.out); rintro e w7 ⟨rfl, hb⟩; have n0_ := Aside0.mk (below_step (by repeat (first | (with_reducible first | exact HB.out | apply below_alloc | apply pw_below_drewN | apply below_drew1) | exact HB.out)) hb); clear HB; have HB := n0_; clear n0_; (try clear hb); (try clear hb2); (try clear hk); (try clear hi)) | (go_at_call 8; (with_reducible refine (orielref35_Few.calls k _ _ l1 t177 _ ?side1 ?side2 A6.out).mono ?_); (case side1 => repeat (first | exact (Kd.C_below HR1.out HB.out) | (with_reducible refine Kd.C_alloc ?_ _) | (with_reducible refine Kd.C_drewN ?_ _) | (with_reducible refine Kd.C_drew ?_))); (case side2 => exact HC1.out); rintro e w8 ⟨rfl, hb⟩; have n0_ := Aside0.mk (below_step (by repeat (first | (with_reducible first | exact HB.out | apply below_alloc | apply pw_below_drewN | apply below_drew1) | exact HB.out)) hb); clear HB; have HB := n0_; clear n0_; (try clear hb); (try clear hb2); (try clear hk); (try clear hi))); try go_wp2_with (first | (go_at_call 7; (with_reducible refine (orielref10_Few.calls k _ _ l0 true _ ?side1 ?side2 A4.out).mono ?_); (case side1 => repeat (first | exact (Kd.C_below HR0.out HB.out) | (with_reducible refine Kd.C_alloc ?_ _) | (with_reducible refine Kd.C_drewN ?_ _) | (with_reducible refine Kd.C_drew ?_))); (case side2 => exact HC0.out); rintro e w7 ⟨rfl, hb⟩; have n0_ := Aside0.mk (below_step (by repeat (first | (with_reducible first | exact HB.out | apply below_alloc | apply pw_below_drewN | apply below_drew1) | exact HB.out)) hb); clear HB; have HB := n0_; clear n0_; (try clear hb); (try clear hb2); (try clear hk); (try clear hi)) | (go_at_call 8; (with_reducible refine (orielref35_Few.calls k _ _ l1 t177 _ ?side1 ?side2 A6.out).mono ?_); (case side1 => repeat (first | exact (Kd.C_below HR1.out HB.out) | (with_reducible refine Kd.C_alloc ?_ _) | (with_reducible refine Kd.C_drewN ?_ _) | (with_reducible refine Kd.C_drew ?_))); (case side2 => exact HC1.out); rintro e w8 ⟨rfl, hb⟩; have n0_ := Aside0.mk (below_step (by repeat (first | (with_reducible first | exact HB.out | apply below_alloc | apply pw_below_drewN | apply below_drew1) | exact HB.out)) hb); clear HB; have HB := n0_; clear n0_; (try clear hb); (try clear hb2); (try clear hk); (try clear hi))))
   go_meet
   case rel => exact ⟨_, (!t177), (by first | rfl | (simp; done) | (simp [*]; done)), H', ⟨by first | omega | exact Nat.le_refl _⟩, ⟨by repeat (first | (with_reducible first | exact HB.out | apply below_alloc | apply pw_below_drewN | apply below_drew1) | exact HB.out)⟩⟩
  ·replace c5 := Bool.eq_false_iff.mpr c5
   subst c5
   have H1 : (oriellaw35_MergeLittle.j0 k l0 l1 true) = some r := by rw [if_neg (show ¬ (false = true) by decide)] at H; exact H
   clear H
   have H := H1
   clear H1
   have H' := Aside0.mk H
   clear H
   go_wp2_with (first | (go_at_call 7; (with_reducible refine (orielref10_Few.calls k _ _ l0 false _ ?side1 ?side2 A4.out).mono ?_); (case side1 => repeat (first | exact (Kd.C_below HR0.out HB.out) | (with_reducible refine Kd.C_alloc ?_ _) | (with_reducible refine Kd.C_drewN ?_ _) | (with_reducible refine Kd.C_drew ?_))); (case side2 => exact HC0.out); rintro e w9 ⟨rfl, hb⟩; have n0_ := Aside0.mk (below_step (by repeat (first | (with_reducible first | exact HB.out | apply below_alloc | apply pw_below_drewN | apply below_drew1) | exact HB.out)) hb); clear HB; have HB := n0_; clear n0_; (try clear hb); (try clear hb2); (try clear hk); (try clear hi)))
   repeat (go_quiet (first | (go_at_call 7; (with_reducible refine (orielref10_Few.calls k _ _ l0 false _ ?side1 ?side2 A4.out).mono ?_); (case side1 => repeat (first | exact (Kd.C_below HR0.out HB.out) | (with_reducible refine Kd.C_alloc ?_ _) | (with_reducible refine Kd.C_drewN ?_ _) | (with_reducible refine Kd.C_drew ?_))); (case side2 => exact HC0.out); rintro e w9 ⟨rfl, hb⟩; have n0_ := Aside0.mk (below_step (by repeat (first | (with_reducible first | exact HB.out | apply below_alloc | apply pw_below_drewN | apply below_drew1) | exact HB.out)) hb); clear HB; have HB := n0_; clear n0_; (try clear hb); (try clear hb2); (try clear hk); (try clear hi))); try go_wp2_with (first | (go_at_call 7; (with_reducible refine (orielref10_Few.calls k _ _ l0 false _ ?side1 ?side2 A4.out).mono ?_); (case side1 => repeat (first | exact (Kd.C_below HR0.out HB.out) | (with_reducible refine Kd.C_alloc ?_ _) | (with_reducible refine Kd.C_drewN ?_ _) | (with_reducible refine Kd.C_drew ?_))); (case side2 => exact HC0.out); rintro e w9 ⟨rfl, hb⟩; have n0_ := Aside0.mk (below_step (by repeat (first | (with_reducible first | exact HB.out | apply below_alloc | apply pw_below_drewN | apply below_drew1) | exact HB.out)) hb); clear HB; have HB := n0_; clear n0_; (try clear hb); (try clear hb2); (try clear hk); (try clear hi))))
   go_meet
   case rel => exact ⟨_, (true), (by first | rfl | (simp; done) | (simp [*]; done)), H', ⟨by first | omega | exact Nat.le_refl _⟩, ⟨by repeat (first | (with_reducible first | exact HB.out | apply below_alloc | apply pw_below_drewN | apply below_drew1) | exact HB.out)⟩⟩
 case rest =>
  clear HC3
  (try clear c1);(try clear p2);(try clear c3);(try clear c5)
  obtain ⟨kq, x19_2, rfl, HA, HJ2, HB⟩ := hcut
  cases kq with
  | zero => exact absurd HA.out (by simp [oriellaw35_MergeLittle.j0])
  | succ kj2 =>
   have H := HA.out
   clear HA
   simp only [oriellaw35_MergeLittle.j0] at H
   by_cases c10 : x19_2 = true
   ·subst c10
    have H1 : ((oriellaw35_alive.f kj2).bind fun t178 => (some t178)) = some r := by rw [if_pos rfl] at H; exact H
    clear H
    have H := H1
    clear H1
    replace H := Option.bind_eq_some_iff.mp H
    obtain ⟨t178, A110, H⟩ := H
    replace H : (some t178) = some r := H
    have A11 := Aside0.mk A110
    clear A110
    obtain rfl := Option.some.inj H
    go_wp2_with (first | (go_at_call 9; (with_reducible refine (oriellaw35_alive.calls kj2  t178 _ A11.out).mono ?_); rintro e w12 ⟨rfl, hb⟩; have n0_ := Aside0.mk (below_step (by repeat (first | (with_reducible first | exact HB.out | apply below_alloc | apply pw_below_drewN | apply below_drew1) | exact HB.out)) hb); clear HB; have HB := n0_; clear n0_; (try clear hb); (try clear hb2); (try clear hk); (try clear hi)))
    repeat (go_quiet (first | (go_at_call 9; (with_reducible refine (oriellaw35_alive.calls kj2  t178 _ A11.out).mono ?_); rintro e w12 ⟨rfl, hb⟩; have n0_ := Aside0.mk (below_step (by repeat (first | (with_reducible first | exact HB.out | apply below_alloc | apply pw_below_drewN | apply below_drew1) | exact HB.out)) hb); clear HB; have HB := n0_; clear n0_; (try clear hb); (try clear hb2); (try clear hk); (try clear hi))); try go_wp2_with (first | (go_at_call 9; (with_reducible refine (oriellaw35_alive.calls kj2  t178 _ A11.out).mono ?_); rintro e w12 ⟨rfl, hb⟩; have n0_ := Aside0.mk (below_step (by repeat (first | (with_reducible first | exact HB.out | apply below_alloc | apply pw_below_drewN | apply below_drew1) | exact HB.out)) hb); clear HB; have HB := n0_; clear n0_; (try clear hb); (try clear hb2); (try clear hk); (try clear hi))))
    go_ret
    exact ⟨by first | rfl | (simp [errW_none, errW_some] <;> rfl) | (simp [*, errW_none, errW_some] <;> rfl), by repeat (first | (with_reducible first | exact HB.out | apply below_alloc | apply pw_below_drewN | apply below_drew1) | exact HB.out)⟩
   ·replace c10 := Bool.eq_false_iff.mpr c10
    subst c10
    have H1 : ((merge_Net.f kj2 l0 l1).bind fun bt179 => (if (!(bt179.2.2.1 == 0) || (!(bt179.2.2.2.1 == 0) || (!(bt179.2.2.2.2 == 0)))) = true then (if (bt179.1.length : Int) = 0 then ((oriellaw35_alive.f kj2).bind fun t187 => (some t187)) else (none)) else (oriellaw35_MergeLittle.l0 kj2 l0 (-1) bt179.1 (bt179.1.length : Int) 0))) = some r := by rw [if_neg (show ¬ (false = true) by decide)] at H; exact H
    clear H
    have H := H1
    clear H1
    replace H := Option.bind_eq_some_iff.mp H
    obtain ⟨⟨t179, t182, t183, t184, t185⟩, A130, H⟩ := H
    replace H : (if (!(t183 == 0) || (!(t184 == 0) || (!(t185 == 0)))) = true then (if (t179.length : Int) = 0 then ((oriellaw35_alive.f kj2).bind fun t187 => (some t187)) else (none)) else (oriellaw35_MergeLittle.l0 kj2 l0 (-1) t179 (t179.length : Int) 0)) = some r := H
    have A13 := Aside0.mk A130
    clear A130
    by_cases c14 : (!(t183 == 0) || (!(t184 == 0) || (!(t185 == 0)))) = true
    ·rw [if_pos c14] at H
     have c14b0 : (!(t183 == 0) || (!(t184 == 0) || (!(t185 == 0)))) = true := c14
     clear c14
     by_cases c15 : (t179.length : Int) = 0
     ·rw [if_pos c15] at H
      have c15b0 : ((t179.length : Int) == 0) = true := beq_iff_eq.mpr c15
      have c15b1 : ((t179.length : Int) != 0) = false := bne_eq_false_iff_eq.mpr c15
      clear c15
      replace H := Option.bind_eq_some_iff.mp H
      obtain ⟨t187, A160, H⟩ := H
      replace H : (some t187) = some r := H
      have A16 := Aside0.mk A160
      clear A160
      obtain rfl := Option.some.inj H
      go_wp2_with (first | (go_at_call 10; (with_reducible refine (merge_Net.calls kj2 _ _ l0 _ _ l1 t179 t182 t183 t184 t185 _ ?side1 ?side2 ?side3 ?side4 A13.out).mono ?_); (case side1 => repeat (first | exact (Kd.C_below HR0.out HB.out) | (with_reducible refine Kd.C_alloc ?_ _) | (with_reducible refine Kd.C_drewN ?_ _) | (with_reducible refine Kd.C_drew ?_))); (case side2 => exact HC0.out); (case side3 => repeat (first | exact (Kd.C_below HR1.out HB.out) | (with_reducible refine Kd.C_alloc ?_ _) | (with_reducible refine Kd.C_drewN ?_ _) | (with_reducible refine Kd.C_drew ?_))); (case side4 => exact HC1.out); rintro e w17 ⟨v180, rfl, ho0, hb⟩; have n0_ := Aside0.mk (Kd.R_lower ho0 (below_size (by repeat (first | (with_reducible first | exact HB.out | apply below_alloc | apply pw_below_drewN | apply below_drew1) | exact HB.out)))); have n1_ := Aside0.mk (below_step (by repeat (first | (with_reducible first | exact HB.out | apply below_alloc | apply pw_below_drewN | apply below_drew1) | exact HB.out)) hb); clear HB; have HO181 := n0_; have HB := n1_; clear n0_ n1_; (try clear hb); (try clear hb2); (try clear hk); (try clear hi); (try clear ho0)) | ((with_reducible refine gate_dst (N := 7) rfl ?_); (try (refine gate_guard (by rfl) ?_; dsimp only)); refine box_event ?hg (N := 7) ?hd (cs := #[.int .i64 0, .int .i64 0, .int .i64 0]) (t := 30) ?hr ?_; (case hd => rfl); (case hg => rfl); (case hr => first | (go_simp; done) | (go_simp; rfl)); intro gb186 hg w18 hbox hb; have n0_ := Aside0.mk (Kd.R_below (by (with_reducible repeat (first | apply Kd.R_alloc | apply Kd.R_drewN | apply Kd.R_drew)); exact HO181.out) hb); have n1_ := Aside0.mk (below_step (by repeat (first | (with_reducible first | exact HB.out | apply below_alloc | apply pw_below_drewN | apply below_drew1) | exact HB.out)) hb); have n2_ := Aside0.mk (hbox); have n3_ := Aside0.mk ((by rw [hg]; exact (below_size (by repeat (first | (with_reducible first | exact HB.out | apply below_alloc | apply pw_below_drewN | apply below_drew1) | exact HB.out))) : w.heap.size ≤ gb186)); have n4_ := Aside0.mk ((by rw [hg]; exact (below_size (by repeat (first | (with_reducible first | exact HB.out | apply below_alloc | apply pw_below_drewN | apply below_drew1) | exact HB.out))) : w.heap.size ≤ gb186)); clear HO181; clear HB; have HO181 := n0_; have HB := n1_; have BK186 := n2_; have GW186 := n3_; have GE186 := n4_; clear n0_ n1_ n2_ n3_ n4_; clear hb hbox hg; have hcz19_0 : w18.cell? ⟨gb186, 0, none⟩ = some (.int .i64 0) := (blk_cell BK186.out 0).trans rfl; have hcz19_1 : w18.cell? ⟨gb186, 1, none⟩ = some (.int .i64 0) := (blk_cell BK186.out 1).trans rfl; have hcz19_2 : w18.cell? ⟨gb186, 2, none⟩ = some (.int .i64 0) := (blk_cell BK186.out 2).trans rfl; have hfz19_0 := blk_frozen BK186.out 0; have hfz19_1 := blk_frozen BK186.out 1; have hfz19_2 := blk_frozen BK186.out 2; obtain ⟨Ao20, co20, eo20⟩ := Kd.R_slice HO181.out; subst eo20) | (go_at_call 9; (with_reducible refine (oriellaw35_alive.calls kj2  t187 _ A16.out).mono ?_); rintro e w21 ⟨rfl, hb⟩; have n0_ := Aside0.mk (Kd.R_below (by (with_reducible repeat (first | apply Kd.R_alloc | apply Kd.R_drewN | apply Kd.R_drew)); exact (Kd.R_mono (Kd.R_far (p := ⟨gb186, 2, none⟩) (Kd.R_far (p := ⟨gb186, 1, none⟩) (Kd.R_far (p := ⟨gb186, 0, none⟩) (Kd.R_types HO181.out BK186.out (by decide)) (fun _ hk => hk.2) (.int .i64 t183)) (fun _ hk => hk.2) (.int .i64 t184)) (fun _ hk => hk.2) (.int .i64 t185)) (fun _ h_ => h_.1))) hb); have n1_ := Aside0.mk (blk_below (g := gb186) (o := .cells #[.int .i64 t183, .int .i64 t184, .int .i64 t185] 30 (0, 0)) (by (with_reducible repeat (first | refine blk_drewN ?_ _ | refine blk_drew ?_ | refine blk_alloc ?_ _)); refine blk_put (cs := #[.int .i64 t183, .int .i64 t184, .int .i64 0]) ?_ 2 _ rfl; (with_reducible repeat (first | refine blk_drewN ?_ _ | refine blk_drew ?_ | refine blk_alloc ?_ _)); refine blk_put (cs := #[.int .i64 t183, .int .i64 0, .int .i64 0]) ?_ 1 _ rfl; (with_reducible repeat (first | refine blk_drewN ?_ _ | refine blk_drew ?_ | refine blk_alloc ?_ _)); refine blk_put (cs := #[.int .i64 0, .int .i64 0, .int .i64 0]) ?_ 0 _ rfl; (with_reducible repeat (first | refine blk_drewN ?_ _ | refine blk_drew ?_ | refine blk_alloc ?_ _)); exact BK186.out) hb); have n2_ := Aside0.mk (below_step (by repeat (first | (with_reducible first | exact HB.out | apply below_alloc | apply pw_below_drewN | apply below_drew1 | refine below_set ?_ GE186.out) | exact HB.out)) hb); clear HO181; clear BK186; clear HB; have HO181 := n0_; have BK186 := n1_; have HB := n2_; clear n0_ n1_ n2_; (try clear hb); (try clear hb2); (try clear hk); (try clear hi)))
      repeat (go_quiet (first | (go_at_call 10; (with_reducible refine (merge_Net.calls kj2 _ _ l0 _ _ l1 t179 t182 t183 t184 t185 _ ?side1 ?side2 ?side3 ?side4 A13.out).mono ?_); (case side1 => repeat (first | exact (Kd.C_below HR0.out HB.out) | (with_reducible refine Kd.C_alloc ?_ _) | (with_reducible refine Kd.C_drewN ?_ _) | (with_reducible refine Kd.C_drew ?_))); (case side2 => exact HC0.out); (case side3 => repeat (first | exact (Kd.C_below HR1.out HB.out) | (with_reducible refine Kd.C_alloc ?_ _) | (with_reducible refine Kd.C_drewN ?_ _) | (with_reducible refine Kd.C_drew ?_))); (case side4 => exact HC1.out); rintro e w17 ⟨v180, rfl, ho0, hb⟩; have n0_ := Aside0.mk (Kd.R_lower ho0 (below_size (by repeat (first | (with_reducible first | exact HB.out | apply below_alloc | apply pw_below_drewN | apply below_drew1) | exact HB.out)))); have n1_ := Aside0.mk (below_step (by repeat (first | (with_reducible first | exact HB.out | apply below_alloc | apply pw_below_drewN | apply below_drew1) | exact HB.out)) hb); clear HB; have HO181 := n0_; have HB := n1_; clear n0_ n1_; (try clear hb); (try clear hb2); (try clear hk); (try clear hi); (try clear ho0)) | ((with_reducible refine gate_dst (N := 7) rfl ?_); (try (refine gate_guard (by rfl) ?_; dsimp only)); refine box_event ?hg (N := 7) ?hd (cs := #[.int .i64 0, .int .i64 0, .int .i64 0]) (t := 30) ?hr ?_; (case hd => rfl); (case hg => rfl); (case hr => first | (go_simp; done) | (go_simp; rfl)); intro gb186 hg w18 hbox hb; have n0_ := Aside0.mk (Kd.R_below (by (with_reducible repeat (first | apply Kd.R_alloc | apply Kd.R_drewN | apply Kd.R_drew)); exact HO181.out) hb); have n1_ := Aside0.mk (below_step (by repeat (first | (with_reducible first | exact HB.out | apply below_alloc | apply pw_below_drewN | apply below_drew1) | exact HB.out)) hb); have n2_ := Aside0.mk (hbox); have n3_ := Aside0.mk ((by rw [hg]; exact (below_size (by repeat (first | (with_reducible first | exact HB.out | apply below_alloc | apply pw_below_drewN | apply below_drew1) | exact HB.out))) : w.heap.size ≤ gb186)); have n4_ := Aside0.mk ((by rw [hg]; exact (below_size (by repeat (first | (with_reducible first | exact HB.out | apply below_alloc | apply pw_below_drewN | apply below_drew1) | exact HB.out))) : w.heap.size ≤ gb186)); clear HO181; clear HB; have HO181 := n0_; have HB := n1_; have BK186 := n2_; have GW186 := n3_; have GE186 := n4_; clear n0_ n1_ n2_ n3_ n4_; clear hb hbox hg; have hcz19_0 : w18.cell? ⟨gb186, 0, none⟩ = some (.int .i64 0) := (blk_cell BK186.out 0).trans rfl; have hcz19_1 : w18.cell? ⟨gb186, 1, none⟩ = some (.int .i64 0) := (blk_cell BK186.out 1).trans rfl; have hcz19_2 : w18.cell? ⟨gb186, 2, none⟩ = some (.int .i64 0) := (blk_cell BK186.out 2).trans rfl; have hfz19_0 := blk_frozen BK186.out 0; have hfz19_1 := blk_frozen BK186.out 1; have hfz19_2 := blk_frozen BK186.out 2; obtain ⟨Ao20, co20, eo20⟩ := Kd.R_slice HO181.out; subst eo20) | (go_at_call 9; (with_reducible refine (oriellaw35_alive.calls kj2  t187 _ A16.out).mono ?_); rintro e w21 ⟨rfl, hb⟩; have n0_ := Aside0.mk (Kd.R_below (by (with_reducible repeat (first | apply Kd.R_alloc | apply Kd.R_drewN | apply Kd.R_drew)); exact (Kd.R_mono (Kd.R_far (p := ⟨gb186, 2, none⟩) (Kd.R_far (p := ⟨gb186, 1, none⟩) (Kd.R_far (p := ⟨gb186, 0, none⟩) (Kd.R_types HO181.out BK186.out (by decide)) (fun _ hk => hk.2) (.int .i64 t183)) (fun _ hk => hk.2) (.int .i64 t184)) (fun _ hk => hk.2) (.int .i64 t185)) (fun _ h_ => h_.1))) hb); have n1_ := Aside0.mk (blk_below (g := gb186) (o := .cells #[.int .i64 t183, .int .i64 t184, .int .i64 t185] 30 (0, 0)) (by (with_reducible repeat (first | refine blk_drewN ?_ _ | refine blk_drew ?_ | refine blk_alloc ?_ _)); refine blk_put (cs := #[.int .i64 t183, .int .i64 t184, .int .i64 0]) ?_ 2 _ rfl; (with_reducible repeat (first | refine blk_drewN ?_ _ | refine blk_drew ?_ | refine blk_alloc ?_ _)); refine blk_put (cs := #[.int .i64 t183, .int .i64 0, .int .i64 0]) ?_ 1 _ rfl; (with_reducible repeat (first | refine blk_drewN ?_ _ | refine blk_drew ?_ | refine blk_alloc ?_ _)); refine blk_put (cs := #[.int .i64 0, .int .i64 0, .int .i64 0]) ?_ 0 _ rfl; (with_reducible repeat (first | refine blk_drewN ?_ _ | refine blk_drew ?_ | refine blk_alloc ?_ _)); exact BK186.out) hb); have n2_ := Aside0.mk (below_step (by repeat (first | (with_reducible first | exact HB.out | apply below_alloc | apply pw_below_drewN | apply below_drew1 | refine below_set ?_ GE186.out) | exact HB.out)) hb); clear HO181; clear BK186; clear HB; have HO181 := n0_; have BK186 := n1_; have HB := n2_; clear n0_ n1_ n2_; (try clear hb); (try clear hb2); (try clear hk); (try clear hi))); try go_wp2_with (first | (go_at_call 10; (with_reducible refine (merge_Net.calls kj2 _ _ l0 _ _ l1 t179 t182 t183 t184 t185 _ ?side1 ?side2 ?side3 ?side4 A13.out).mono ?_); (case side1 => repeat (first | exact (Kd.C_below HR0.out HB.out) | (with_reducible refine Kd.C_alloc ?_ _) | (with_reducible refine Kd.C_drewN ?_ _) | (with_reducible refine Kd.C_drew ?_))); (case side2 => exact HC0.out); (case side3 => repeat (first | exact (Kd.C_below HR1.out HB.out) | (with_reducible refine Kd.C_alloc ?_ _) | (with_reducible refine Kd.C_drewN ?_ _) | (with_reducible refine Kd.C_drew ?_))); (case side4 => exact HC1.out); rintro e w17 ⟨v180, rfl, ho0, hb⟩; have n0_ := Aside0.mk (Kd.R_lower ho0 (below_size (by repeat (first | (with_reducible first | exact HB.out | apply below_alloc | apply pw_below_drewN | apply below_drew1) | exact HB.out)))); have n1_ := Aside0.mk (below_step (by repeat (first | (with_reducible first | exact HB.out | apply below_alloc | apply pw_below_drewN | apply below_drew1) | exact HB.out)) hb); clear HB; have HO181 := n0_; have HB := n1_; clear n0_ n1_; (try clear hb); (try clear hb2); (try clear hk); (try clear hi); (try clear ho0)) | ((with_reducible refine gate_dst (N := 7) rfl ?_); (try (refine gate_guard (by rfl) ?_; dsimp only)); refine box_event ?hg (N := 7) ?hd (cs := #[.int .i64 0, .int .i64 0, .int .i64 0]) (t := 30) ?hr ?_; (case hd => rfl); (case hg => rfl); (case hr => first | (go_simp; done) | (go_simp; rfl)); intro gb186 hg w18 hbox hb; have n0_ := Aside0.mk (Kd.R_below (by (with_reducible repeat (first | apply Kd.R_alloc | apply Kd.R_drewN | apply Kd.R_drew)); exact HO181.out) hb); have n1_ := Aside0.mk (below_step (by repeat (first | (with_reducible first | exact HB.out | apply below_alloc | apply pw_below_drewN | apply below_drew1) | exact HB.out)) hb); have n2_ := Aside0.mk (hbox); have n3_ := Aside0.mk ((by rw [hg]; exact (below_size (by repeat (first | (with_reducible first | exact HB.out | apply below_alloc | apply pw_below_drewN | apply below_drew1) | exact HB.out))) : w.heap.size ≤ gb186)); have n4_ := Aside0.mk ((by rw [hg]; exact (below_size (by repeat (first | (with_reducible first | exact HB.out | apply below_alloc | apply pw_below_drewN | apply below_drew1) | exact HB.out))) : w.heap.size ≤ gb186)); clear HO181; clear HB; have HO181 := n0_; have HB := n1_; have BK186 := n2_; have GW186 := n3_; have GE186 := n4_; clear n0_ n1_ n2_ n3_ n4_; clear hb hbox hg; have hcz19_0 : w18.cell? ⟨gb186, 0, none⟩ = some (.int .i64 0) := (blk_cell BK186.out 0).trans rfl; have hcz19_1 : w18.cell? ⟨gb186, 1, none⟩ = some (.int .i64 0) := (blk_cell BK186.out 1).trans rfl; have hcz19_2 : w18.cell? ⟨gb186, 2, none⟩ = some (.int .i64 0) := (blk_cell BK186.out 2).trans rfl; have hfz19_0 := blk_frozen BK186.out 0; have hfz19_1 := blk_frozen BK186.out 1; have hfz19_2 := blk_frozen BK186.out 2; obtain ⟨Ao20, co20, eo20⟩ := Kd.R_slice HO181.out; subst eo20) | (go_at_call 9; (with_reducible refine (oriellaw35_alive.calls kj2  t187 _ A16.out).mono ?_); rintro e w21 ⟨rfl, hb⟩; have n0_ := Aside0.mk (Kd.R_below (by (with_reducible repeat (first | apply Kd.R_alloc | apply Kd.R_drewN | apply Kd.R_drew)); exact (Kd.R_mono (Kd.R_far (p := ⟨gb186, 2, none⟩) (Kd.R_far (p := ⟨gb186, 1, none⟩) (Kd.R_far (p := ⟨gb186, 0, none⟩) (Kd.R_types HO181.out BK186.out (by decide)) (fun _ hk => hk.2) (.int .i64 t183)) (fun _ hk => hk.2) (.int .i64 t184)) (fun _ hk => hk.2) (.int .i64 t185)) (fun _ h_ => h_.1))) hb); have n1_ := Aside0.mk (blk_below (g := gb186) (o := .cells #[.int .i64 t183, .int .i64 t184, .int .i64 t185] 30 (0, 0)) (by (with_reducible repeat (first | refine blk_drewN ?_ _ | refine blk_drew ?_ | refine blk_alloc ?_ _)); refine blk_put (cs := #[.int .i64 t183, .int .i64 t184, .int .i64 0]) ?_ 2 _ rfl; (with_reducible repeat (first | refine blk_drewN ?_ _ | refine blk_drew ?_ | refine blk_alloc ?_ _)); refine blk_put (cs := #[.int .i64 t183, .int .i64 0, .int .i64 0]) ?_ 1 _ rfl; (with_reducible repeat (first | refine blk_drewN ?_ _ | refine blk_drew ?_ | refine blk_alloc ?_ _)); refine blk_put (cs := #[.int .i64 0, .int .i64 0, .int .i64 0]) ?_ 0 _ rfl; (with_reducible repeat (first | refine blk_drewN ?_ _ | refine blk_drew ?_ | refine blk_alloc ?_ _)); exact BK186.out) hb); have n2_ := Aside0.mk (below_step (by repeat (first | (with_reducible first | exact HB.out | apply below_alloc | apply pw_below_drewN | apply below_drew1 | refine below_set ?_ GE186.out) | exact HB.out)) hb); clear HO181; clear BK186; clear HB; have HO181 := n0_; have BK186 := n1_; have HB := n2_; clear n0_ n1_ n2_; (try clear hb); (try clear hb2); (try clear hk); (try clear hi))))
      go_ret
      exact ⟨by first | rfl | (simp [errW_none, errW_some] <;> rfl) | (simp [*, errW_none, errW_some] <;> rfl), by repeat (first | (with_reducible first | exact HB.out | apply below_alloc | apply pw_below_drewN | apply below_drew1 | refine below_set ?_ GE186.out) | exact HB.out)⟩
     ·rw [if_neg c15] at H
      exact absurd H (by simp)
    ·rw [if_neg c14] at H
     have c14b0 : (!(t183 == 0) || (!(t184 == 0) || (!(t185 == 0)))) = false := by simpa using c14
     clear c14
     have H' := Aside0.mk H
     clear H
     go_wp2_with (first | (go_at_call 10; (with_reducible refine (merge_Net.calls kj2 _ _ l0 _ _ l1 t179 t182 t183 t184 t185 _ ?side1 ?side2 ?side3 ?side4 A13.out).mono ?_); (case side1 => repeat (first | exact (Kd.C_below HR0.out HB.out) | (with_reducible refine Kd.C_alloc ?_ _) | (with_reducible refine Kd.C_drewN ?_ _) | (with_reducible refine Kd.C_drew ?_))); (case side2 => exact HC0.out); (case side3 => repeat (first | exact (Kd.C_below HR1.out HB.out) | (with_reducible refine Kd.C_alloc ?_ _) | (with_reducible refine Kd.C_drewN ?_ _) | (with_reducible refine Kd.C_drew ?_))); (case side4 => exact HC1.out); rintro e w22 ⟨v180, rfl, ho0, hb⟩; have n0_ := Aside0.mk (Kd.R_lower ho0 (below_size (by repeat (first | (with_reducible first | exact HB.out | apply below_alloc | apply pw_below_drewN | apply below_drew1) | exact HB.out)))); have n1_ := Aside0.mk (below_step (by repeat (first | (with_reducible first | exact HB.out | apply below_alloc | apply pw_below_drewN | apply below_drew1) | exact HB.out)) hb); clear HB; have HO181 := n0_; have HB := n1_; clear n0_ n1_; (try clear hb); (try clear hb2); (try clear hk); (try clear hi); (try clear ho0)) | ((with_reducible refine gate_dst (N := 7) rfl ?_); (try (refine gate_guard (by rfl) ?_; dsimp only)); refine box_event ?hg (N := 7) ?hd (cs := #[.int .i64 0, .int .i64 0, .int .i64 0]) (t := 30) ?hr ?_; (case hd => rfl); (case hg => rfl); (case hr => first | (go_simp; done) | (go_simp; rfl)); intro gb186 hg w23 hbox hb; have n0_ := Aside0.mk (Kd.R_below (by (with_reducible repeat (first | apply Kd.R_alloc | apply Kd.R_drewN | apply Kd.R_drew)); exact HO181.out) hb); have n1_ := Aside0.mk (below_step (by repeat (first | (with_reducible first | exact HB.out | apply below_alloc | apply pw_below_drewN | apply below_drew1) | exact HB.out)) hb); have n2_ := Aside0.mk (hbox); have n3_ := Aside0.mk ((by rw [hg]; exact (below_size (by repeat (first | (with_reducible first | exact HB.out | apply below_alloc | apply pw_below_drewN | apply below_drew1) | exact HB.out))) : w.heap.size ≤ gb186)); have n4_ := Aside0.mk ((by rw [hg]; exact (below_size (by repeat (first | (with_reducible first | exact HB.out | apply below_alloc | apply pw_below_drewN | apply below_drew1) | exact HB.out))) : w.heap.size ≤ gb186)); clear HO181; clear HB; have HO181 := n0_; have HB := n1_; have BK186 := n2_; have GW186 := n3_; have GE186 := n4_; clear n0_ n1_ n2_ n3_ n4_; clear hb hbox hg; have hcz24_0 : w23.cell? ⟨gb186, 0, none⟩ = some (.int .i64 0) := (blk_cell BK186.out 0).trans rfl; have hcz24_1 : w23.cell? ⟨gb186, 1, none⟩ = some (.int .i64 0) := (blk_cell BK186.out 1).trans rfl; have hcz24_2 : w23.cell? ⟨gb186, 2, none⟩ = some (.int .i64 0) := (blk_cell BK186.out 2).trans rfl; have hfz24_0 := blk_frozen BK186.out 0; have hfz24_1 := blk_frozen BK186.out 1; have hfz24_2 := blk_frozen BK186.out 2; obtain ⟨Ao25, co25, eo25⟩ := Kd.R_slice HO181.out; subst eo25))
     repeat (go_quiet (first | (go_at_call 10; (with_reducible refine (merge_Net.calls kj2 _ _ l0 _ _ l1 t179 t182 t183 t184 t185 _ ?side1 ?side2 ?side3 ?side4 A13.out).mono ?_); (case side1 => repeat (first | exact (Kd.C_below HR0.out HB.out) | (with_reducible refine Kd.C_alloc ?_ _) | (with_reducible refine Kd.C_drewN ?_ _) | (with_reducible refine Kd.C_drew ?_))); (case side2 => exact HC0.out); (case side3 => repeat (first | exact (Kd.C_below HR1.out HB.out) | (with_reducible refine Kd.C_alloc ?_ _) | (with_reducible refine Kd.C_drewN ?_ _) | (with_reducible refine Kd.C_drew ?_))); (case side4 => exact HC1.out); rintro e w22 ⟨v180, rfl, ho0, hb⟩; have n0_ := Aside0.mk (Kd.R_lower ho0 (below_size (by repeat (first | (with_reducible first | exact HB.out | apply below_alloc | apply pw_below_drewN | apply below_drew1) | exact HB.out)))); have n1_ := Aside0.mk (below_step (by repeat (first | (with_reducible first | exact HB.out | apply below_alloc | apply pw_below_drewN | apply below_drew1) | exact HB.out)) hb); clear HB; have HO181 := n0_; have HB := n1_; clear n0_ n1_; (try clear hb); (try clear hb2); (try clear hk); (try clear hi); (try clear ho0)) | ((with_reducible refine gate_dst (N := 7) rfl ?_); (try (refine gate_guard (by rfl) ?_; dsimp only)); refine box_event ?hg (N := 7) ?hd (cs := #[.int .i64 0, .int .i64 0, .int .i64 0]) (t := 30) ?hr ?_; (case hd => rfl); (case hg => rfl); (case hr => first | (go_simp; done) | (go_simp; rfl)); intro gb186 hg w23 hbox hb; have n0_ := Aside0.mk (Kd.R_below (by (with_reducible repeat (first | apply Kd.R_alloc | apply Kd.R_drewN | apply Kd.R_drew)); exact HO181.out) hb); have n1_ := Aside0.mk (below_step (by repeat (first | (with_reducible first | exact HB.out | apply below_alloc | apply pw_below_drewN | apply below_drew1) | exact HB.out)) hb); have n2_ := Aside0.mk (hbox); have n3_ := Aside0.mk ((by rw [hg]; exact (below_size (by repeat (first | (with_reducible first | exact HB.out | apply below_alloc | apply pw_below_drewN | apply below_drew1) | exact HB.out))) : w.heap.size ≤ gb186)); have n4_ := Aside0.mk ((by rw [hg]; exact (below_size (by repeat (first | (with_reducible first | exact HB.out | apply below_alloc | apply pw_below_drewN | apply below_drew1) | exact HB.out))) : w.heap.size ≤ gb186)); clear HO181; clear HB; have HO181 := n0_; have HB := n1_; have BK186 := n2_; have GW186 := n3_; have GE186 := n4_; clear n0_ n1_ n2_ n3_ n4_; clear hb hbox hg; have hcz24_0 : w23.cell? ⟨gb186, 0, none⟩ = some (.int .i64 0) := (blk_cell BK186.out 0).trans rfl; have hcz24_1 : w23.cell? ⟨gb186, 1, none⟩ = some (.int .i64 0) := (blk_cell BK186.out 1).trans rfl; have hcz24_2 : w23.cell? ⟨gb186, 2, none⟩ = some (.int .i64 0) := (blk_cell BK186.out 2).trans rfl; have hfz24_0 := blk_frozen BK186.out 0; have hfz24_1 := blk_frozen BK186.out 1; have hfz24_2 := blk_frozen BK186.out 2; obtain ⟨Ao25, co25, eo25⟩ := Kd.R_slice HO181.out; subst eo25)); try go_wp2_with (first | (go_at_call 10; (with_reducible refine (merge_Net.calls kj2 _ _ l0 _ _ l1 t179 t182 t183 t184 t185 _ ?side1 ?side2 ?side3 ?side4 A13.out).mono ?_); (case side1 => repeat (first | exact (Kd.C_below HR0.out HB.out) | (with_reducible refine Kd.C_alloc ?_ _) | (with_reducible refine Kd.C_drewN ?_ _) | (with_reducible refine Kd.C_drew ?_))); (case side2 => exact HC0.out); (case side3 => repeat (first | exact (Kd.C_below HR1.out HB.out) | (with_reducible refine Kd.C_alloc ?_ _) | (with_reducible refine Kd.C_drewN ?_ _) | (with_reducible refine Kd.C_drew ?_))); (case side4 => exact HC1.out); rintro e w22 ⟨v180, rfl, ho0, hb⟩; have n0_ := Aside0.mk (Kd.R_lower ho0 (below_size (by repeat (first | (with_reducible first | exact HB.out | apply below_alloc | apply pw_below_drewN | apply below_drew1) | exact HB.out)))); have n1_ := Aside0.mk (below_step (by repeat (first | (with_reducible first | exact HB.out | apply below_alloc | apply pw_below_drewN | apply below_drew1) | exact HB.out)) hb); clear HB; have HO181 := n0_; have HB := n1_; clear n0_ n1_; (try clear hb); (try clear hb2); (try clear hk); (try clear hi); (try clear ho0)) | ((with_reducible refine gate_dst (N := 7) rfl ?_); (try (refine gate_guard (by rfl) ?_; dsimp only)); refine box_event ?hg (N := 7) ?hd (cs := #[.int .i64 0, .int .i64 0, .int .i64 0]) (t := 30) ?hr ?_; (case hd => rfl); (case hg => rfl); (case hr => first | (go_simp; done) | (go_simp; rfl)); intro gb186 hg w23 hbox hb; have n0_ := Aside0.mk (Kd.R_below (by (with_reducible repeat (first | apply Kd.R_alloc | apply Kd.R_drewN | apply Kd.R_drew)); exact HO181.out) hb); have n1_ := Aside0.mk (below_step (by repeat (first | (with_reducible first | exact HB.out | apply below_alloc | apply pw_below_drewN | apply below_drew1) | exact HB.out)) hb); have n2_ := Aside0.mk (hbox); have n3_ := Aside0.mk ((by rw [hg]; exact (below_size (by repeat (first | (with_reducible first | exact HB.out | apply below_alloc | apply pw_below_drewN | apply below_drew1) | exact HB.out))) : w.heap.size ≤ gb186)); have n4_ := Aside0.mk ((by rw [hg]; exact (below_size (by repeat (first | (with_reducible first | exact HB.out | apply below_alloc | apply pw_below_drewN | apply below_drew1) | exact HB.out))) : w.heap.size ≤ gb186)); clear HO181; clear HB; have HO181 := n0_; have HB := n1_; have BK186 := n2_; have GW186 := n3_; have GE186 := n4_; clear n0_ n1_ n2_ n3_ n4_; clear hb hbox hg; have hcz24_0 : w23.cell? ⟨gb186, 0, none⟩ = some (.int .i64 0) := (blk_cell BK186.out 0).trans rfl; have hcz24_1 : w23.cell? ⟨gb186, 1, none⟩ = some (.int .i64 0) := (blk_cell BK186.out 1).trans rfl; have hcz24_2 : w23.cell? ⟨gb186, 2, none⟩ = some (.int .i64 0) := (blk_cell BK186.out 2).trans rfl; have hfz24_0 := blk_frozen BK186.out 0; have hfz24_1 := blk_frozen BK186.out 1; have hfz24_2 := blk_frozen BK186.out 2; obtain ⟨Ao25, co25, eo25⟩ := Kd.R_slice HO181.out; subst eo25)))
     go_loopg [8, 39] kj2 (fun kq v8 v39 w' => ∃ (x8_2 : Int) (x39_2 : Int), v8 = .int .i64 x8_2 ∧ v39 = .int .i64 x39_2 ∧ Aside0 (oriellaw35_MergeLittle.l0 kq l0 x8_2 t179 (t179.length : Int) x39_2 = some r) ∧ Aside0 (kq ≤ kj2) ∧ Aside0 (Kd.R k34 34 w' w.heap.size (fun _ => True) (.slice Ao25 t179.length co25) t179) ∧ Aside0 (w'.heap[gb186]? = some (.cells #[.int .i64 t183, .int .i64 t184, .int .i64 t185] 30 (0, 0))) ∧ Aside0 (Below w.heap.size w w'))
     case atStart => exact ⟨((-1)), (0), (by first | rfl | (simp; done) | (simp [*]; done)), (by first | rfl | (simp; done) | (simp [*]; done)), H', ⟨Nat.le_refl _⟩, ⟨by (with_reducible repeat (first | apply Kd.R_alloc | apply Kd.R_drewN | apply Kd.R_drew)); exact Kd.R_mono (Kd.R_far (p := ⟨gb186, 2, none⟩) (Kd.R_far (p := ⟨gb186, 1, none⟩) (Kd.R_far (p := ⟨gb186, 0, none⟩) (Kd.R_types HO181.out BK186.out (by decide)) (fun _ hk => hk.2) (.int .i64 t183)) (fun _ hk => hk.2) (.int .i64 t184)) (fun _ hk => hk.2) (.int .i64 t185)) (fun _ hk => trivial)⟩, ⟨by (with_reducible repeat (first | refine blk_drewN ?_ _ | refine blk_drew ?_ | refine blk_alloc ?_ _)); refine blk_put (cs := #[.int .i64 t183, .int .i64 t184, .int .i64 0]) ?_ 2 _ rfl; (with_reducible repeat (first | refine blk_drewN ?_ _ | refine blk_drew ?_ | refine blk_alloc ?_ _)); refine blk_put (cs := #[.int .i64 t183, .int .i64 0, .int .i64 0]) ?_ 1 _ rfl; (with_reducible repeat (first | refine blk_drewN ?_ _ | refine blk_drew ?_ | refine blk_alloc ?_ _)); refine blk_put (cs := #[.int .i64 0, .int .i64 0, .int .i64 0]) ?_ 0 _ rfl; (with_reducible repeat (first | refine blk_drewN ?_ _ | refine blk_drew ?_ | refine blk_alloc ?_ _)); exact BK186.out⟩, ⟨by repeat (first | (with_reducible first | exact HB.out | apply below_alloc | apply pw_below_drewN | apply below_drew1 | refine below_set ?_ GE186.out) | exact HB.out)⟩⟩
     case round =>
      clear H'
      (try clear c1);(try clear p2);(try clear c3);(try clear c5);(try clear c10);(try clear c14);(try clear c14b0);(try clear c15);(try clear c15b0);(try clear c15b1);(try clear hcz19_0);(try clear hcz19_1);(try clear hcz19_2);(try clear hcz24_0);(try clear hcz24_1);(try clear hcz24_2);(try clear hfz19_0);(try clear hfz19_1);(try clear hfz19_2);(try clear hfz24_0);(try clear hfz24_1);(try clear hfz24_2);(try clear p2)
      obtain ⟨x8_2, x39_2, rfl, rfl, HA, HK2, HO_37, BK186, HB⟩ := hrel
      cases gk with
      | zero => exact absurd HA.out (by simp [oriellaw35_MergeLittle.l0])
      | succ k2 =>
       have H := HA.out
       clear HA
       simp only [oriellaw35_MergeLittle.l0] at H
       by_cases c26 : x39_2 < (t179.length : Int)
       ·rw [if_pos c26] at H
        have c26b0 : decide (x39_2 < (t179.length : Int)) = true := decide_eq_true c26
        clear c26
        by_cases c27 : 0 ≤ x39_2
        ·rw [if_pos c27] at H
         have c27b0 : decide (0 ≤ x39_2) = true := decide_eq_true c27
         clear c27
         by_cases c28 : x39_2 < (t179.length : Int)
         ·rw [if_pos c28] at H
          have c28b0 : decide (x39_2 < (t179.length : Int)) = true := decide_eq_true c28
          clear c28
          have HC29 := Aside0.mk H
          clear H
          have p189 : 0 ≤ (x39_2 : Int) := of_decide_eq_true (by first | (with_reducible assumption) | assumption)
          have q189 : x39_2 < (t179.length : Int) := of_decide_eq_true (by first | (with_reducible assumption) | assumption)
          obtain ⟨ad189, e189, hx189_0, hx189_1, hx189_2, hx189_3⟩ := at_T34 (Kd.R_reads' HO_37.out).2.2 x39_2 p189 q189
          cases e189
          replace p189 := eq_true p189
          replace q189 := eq_true q189
          go_upto_region 10 with (first | ((with_reducible refine gate_dst (N := 10) rfl ?_); (try (refine gate_guard (by rfl) ?_; dsimp only)); refine box_event ?hg (N := 10) ?hd (cs := #[.int .i64 0, .int .i64 0, .int .i64 0, .string (⟨#[]⟩ : ByteArray)]) (t := 34) ?hr ?_; (case hd => rfl); (case hg => rfl); (case hr => first | (go_simp; done) | (go_simp; rfl)); intro gb190 hg w30 hbox hb; have n0_ := Aside0.mk (Kd.R_below (Kd.R_elderB (by (with_reducible repeat (first | apply Kd.R_alloc | apply Kd.R_drewN | apply Kd.R_drew)); exact HO_37.out) gb190 (Nat.le_of_eq hg.symm)) hb); have n1_ := Aside0.mk (blk_below (g := gb186) (o := .cells #[.int .i64 t183, .int .i64 t184, .int .i64 t185] 30 (0, 0)) (by (with_reducible repeat (first | refine blk_drewN ?_ _ | refine blk_drew ?_ | refine blk_alloc ?_ _)); exact BK186.out) hb); have n2_ := Aside0.mk (below_step (by repeat (first | (with_reducible first | exact HB.out | apply below_alloc | apply pw_below_drewN | apply below_drew1 | refine below_set ?_ GE186.out) | exact HB.out)) hb); have n3_ := Aside0.mk (hbox); have n4_ := Aside0.mk ((by rw [hg]; exact (below_size (by repeat (first | (with_reducible first | exact HB.out | apply below_alloc | apply pw_below_drewN | apply below_drew1 | refine below_set ?_ GE186.out) | exact HB.out))) : w.heap.size ≤ gb190)); have n5_ := Aside0.mk ((by rw [hg]; exact (below_size (by repeat (first | (with_reducible first | exact HB.out | apply below_alloc | apply pw_below_drewN | apply below_drew1 | refine below_set ?_ GE186.out) | exact HB.out))) : w.heap.size ≤ gb190)); have n6_ := Aside0.mk ((by rw [hg]; exact Nat.ne_of_lt (blk_lt (g := gb186) (o := .cells #[.int .i64 t183, .int .i64 t184, .int .i64 t185] 30 (0, 0)) (by (with_reducible repeat (first | refine blk_drewN ?_ _ | refine blk_drew ?_ | refine blk_alloc ?_ _)); exact BK186.out)) : gb186 ≠ gb190)); have n7_ := Aside0.mk ((by rw [hg]; exact Nat.ne_of_gt (blk_lt (g := gb186) (o := .cells #[.int .i64 t183, .int .i64 t184, .int .i64 t185] 30 (0, 0)) (by (with_reducible repeat (first | refine blk_drewN ?_ _ | refine blk_drew ?_ | refine blk_alloc ?_ _)); exact BK186.out)) : gb190 ≠ gb186)); clear HO_37; clear BK186; clear HB; have HO_37 := n0_; have BK186 := n1_; have HB := n2_; have BK190 := n3_; have GW190 := n4_; have GE190 := n5_; have NB186_190 := n6_; have NB190_186 := n7_; clear n0_ n1_ n2_ n3_ n4_ n5_ n6_ n7_; clear hb hbox hg; have hnb31 := NB190_186.out; have hnc31 := NB186_190.out; have hcz32_0 : w30.cell? ⟨gb190, 0, none⟩ = some (.int .i64 0) := (blk_cell BK190.out 0).trans rfl; have hcz32_1 : w30.cell? ⟨gb190, 1, none⟩ = some (.int .i64 0) := (blk_cell BK190.out 1).trans rfl; have hcz32_2 : w30.cell? ⟨gb190, 2, none⟩ = some (.int .i64 0) := (blk_cell BK190.out 2).trans rfl; have hcz32_3 : w30.cell? ⟨gb190, 3, none⟩ = some (.string (⟨#[]⟩ : ByteArray)) := (blk_cell BK190.out 3).trans rfl; have hfz32_0 := blk_frozen BK190.out 0; have hfz32_1 := blk_frozen BK190.out 1; have hfz32_2 := blk_frozen BK190.out 2; have hfz32_3 := blk_frozen BK190.out 3))
          repeat (go_quiet (first | ((with_reducible refine gate_dst (N := 10) rfl ?_); (try (refine gate_guard (by rfl) ?_; dsimp only)); refine box_event ?hg (N := 10) ?hd (cs := #[.int .i64 0, .int .i64 0, .int .i64 0, .string (⟨#[]⟩ : ByteArray)]) (t := 34) ?hr ?_; (case hd => rfl); (case hg => rfl); (case hr => first | (go_simp; done) | (go_simp; rfl)); intro gb190 hg w30 hbox hb; have n0_ := Aside0.mk (Kd.R_below (Kd.R_elderB (by (with_reducible repeat (first | apply Kd.R_alloc | apply Kd.R_drewN | apply Kd.R_drew)); exact HO_37.out) gb190 (Nat.le_of_eq hg.symm)) hb); have n1_ := Aside0.mk (blk_below (g := gb186) (o := .cells #[.int .i64 t183, .int .i64 t184, .int .i64 t185] 30 (0, 0)) (by (with_reducible repeat (first | refine blk_drewN ?_ _ | refine blk_drew ?_ | refine blk_alloc ?_ _)); exact BK186.out) hb); have n2_ := Aside0.mk (below_step (by repeat (first | (with_reducible first | exact HB.out | apply below_alloc | apply pw_below_drewN | apply below_drew1 | refine below_set ?_ GE186.out) | exact HB.out)) hb); have n3_ := Aside0.mk (hbox); have n4_ := Aside0.mk ((by rw [hg]; exact (below_size (by repeat (first | (with_reducible first | exact HB.out | apply below_alloc | apply pw_below_drewN | apply below_drew1 | refine below_set ?_ GE186.out) | exact HB.out))) : w.heap.size ≤ gb190)); have n5_ := Aside0.mk ((by rw [hg]; exact (below_size (by repeat (first | (with_reducible first | exact HB.out | apply below_alloc | apply pw_below_drewN | apply below_drew1 | refine below_set ?_ GE186.out) | exact HB.out))) : w.heap.size ≤ gb190)); have n6_ := Aside0.mk ((by rw [hg]; exact Nat.ne_of_lt (blk_lt (g := gb186) (o := .cells #[.int .i64 t183, .int .i64 t184, .int .i64 t185] 30 (0, 0)) (by (with_reducible repeat (first | refine blk_drewN ?_ _ | refine blk_drew ?_ | refine blk_alloc ?_ _)); exact BK186.out)) : gb186 ≠ gb190)); have n7_ := Aside0.mk ((by rw [hg]; exact Nat.ne_of_gt (blk_lt (g := gb186) (o := .cells #[.int .i64 t183, .int .i64 t184, .int .i64 t185] 30 (0, 0)) (by (with_reducible repeat (first | refine blk_drewN ?_ _ | refine blk_drew ?_ | refine blk_alloc ?_ _)); exact BK186.out)) : gb190 ≠ gb186)); clear HO_37; clear BK186; clear HB; have HO_37 := n0_; have BK186 := n1_; have HB := n2_; have BK190 := n3_; have GW190 := n4_; have GE190 := n5_; have NB186_190 := n6_; have NB190_186 := n7_; clear n0_ n1_ n2_ n3_ n4_ n5_ n6_ n7_; clear hb hbox hg; have hnb31 := NB190_186.out; have hnc31 := NB186_190.out; have hcz32_0 : w30.cell? ⟨gb190, 0, none⟩ = some (.int .i64 0) := (blk_cell BK190.out 0).trans rfl; have hcz32_1 : w30.cell? ⟨gb190, 1, none⟩ = some (.int .i64 0) := (blk_cell BK190.out 1).trans rfl; have hcz32_2 : w30.cell? ⟨gb190, 2, none⟩ = some (.int .i64 0) := (blk_cell BK190.out 2).trans rfl; have hcz32_3 : w30.cell? ⟨gb190, 3, none⟩ = some (.string (⟨#[]⟩ : ByteArray)) := (blk_cell BK190.out 3).trans rfl; have hfz32_0 := blk_frozen BK190.out 0; have hfz32_1 := blk_frozen BK190.out 1; have hfz32_2 := blk_frozen BK190.out 2; have hfz32_3 := blk_frozen BK190.out 3)); go_upto_region 10 with (first | ((with_reducible refine gate_dst (N := 10) rfl ?_); (try (refine gate_guard (by rfl) ?_; dsimp only)); refine box_event ?hg (N := 10) ?hd (cs := #[.int .i64 0, .int .i64 0, .int .i64 0, .string (⟨#[]⟩ : ByteArray)]) (t := 34) ?hr ?_; (case hd => rfl); (case hg => rfl); (case hr => first | (go_simp; done) | (go_simp; rfl)); intro gb190 hg w30 hbox hb; have n0_ := Aside0.mk (Kd.R_below (Kd.R_elderB (by (with_reducible repeat (first | apply Kd.R_alloc | apply Kd.R_drewN | apply Kd.R_drew)); exact HO_37.out) gb190 (Nat.le_of_eq hg.symm)) hb); have n1_ := Aside0.mk (blk_below (g := gb186) (o := .cells #[.int .i64 t183, .int .i64 t184, .int .i64 t185] 30 (0, 0)) (by (with_reducible repeat (first | refine blk_drewN ?_ _ | refine blk_drew ?_ | refine blk_alloc ?_ _)); exact BK186.out) hb); have n2_ := Aside0.mk (below_step (by repeat (first | (with_reducible first | exact HB.out | apply below_alloc | apply pw_below_drewN | apply below_drew1 | refine below_set ?_ GE186.out) | exact HB.out)) hb); have n3_ := Aside0.mk (hbox); have n4_ := Aside0.mk ((by rw [hg]; exact (below_size (by repeat (first | (with_reducible first | exact HB.out | apply below_alloc | apply pw_below_drewN | apply below_drew1 | refine below_set ?_ GE186.out) | exact HB.out))) : w.heap.size ≤ gb190)); have n5_ := Aside0.mk ((by rw [hg]; exact (below_size (by repeat (first | (with_reducible first | exact HB.out | apply below_alloc | apply pw_below_drewN | apply below_drew1 | refine below_set ?_ GE186.out) | exact HB.out))) : w.heap.size ≤ gb190)); have n6_ := Aside0.mk ((by rw [hg]; exact Nat.ne_of_lt (blk_lt (g := gb186) (o := .cells #[.int .i64 t183, .int .i64 t184, .int .i64 t185] 30 (0, 0)) (by (with_reducible repeat (first | refine blk_drewN ?_ _ | refine blk_drew ?_ | refine blk_alloc ?_ _)); exact BK186.out)) : gb186 ≠ gb190)); have n7_ := Aside0.mk ((by rw [hg]; exact Nat.ne_of_gt (blk_lt (g := gb186) (o := .cells #[.int .i64 t183, .int .i64 t184, .int .i64 t185] 30 (0, 0)) (by (with_reducible repeat (first | refine blk_drewN ?_ _ | refine blk_drew ?_ | refine blk_alloc ?_ _)); exact BK186.out)) : gb190 ≠ gb186)); clear HO_37; clear BK186; clear HB; have HO_37 := n0_; have BK186 := n1_; have HB := n2_; have BK190 := n3_; have GW190 := n4_; have GE190 := n5_; have NB186_190 := n6_; have NB190_186 := n7_; clear n0_ n1_ n2_ n3_ n4_ n5_ n6_ n7_; clear hb hbox hg; have hnb31 := NB190_186.out; have hnc31 := NB186_190.out; have hcz32_0 : w30.cell? ⟨gb190, 0, none⟩ = some (.int .i64 0) := (blk_cell BK190.out 0).trans rfl; have hcz32_1 : w30.cell? ⟨gb190, 1, none⟩ = some (.int .i64 0) := (blk_cell BK190.out 1).trans rfl; have hcz32_2 : w30.cell? ⟨gb190, 2, none⟩ = some (.int .i64 0) := (blk_cell BK190.out 2).trans rfl; have hcz32_3 : w30.cell? ⟨gb190, 3, none⟩ = some (.string (⟨#[]⟩ : ByteArray)) := (blk_cell BK190.out 3).trans rfl; have hfz32_0 := blk_frozen BK190.out 0; have hfz32_1 := blk_frozen BK190.out 1; have hfz32_2 := blk_frozen BK190.out 2; have hfz32_3 := blk_frozen BK190.out 3)))
          (try simp only [Act.put, List.setIfInBounds_toArray, List.set_cons_zero, List.set_cons_succ])
          go_cut [77] (fun v77 wc => ∃ (kq : Nat) (x77_28 : Bool), v77 = .bool x77_28 ∧ Aside0 (oriellaw35_MergeLittle.j2 kq l0 t179 (t179.length : Int) x39_2 x77_28 ((rd_T34 t179 x39_2).f0) ((rd_T34 t179 x39_2).f1) ((rd_T34 t179 x39_2).f2) ((rd_T34 t179 x39_2).f3) = some r) ∧ Aside0 (kq ≤ k2) ∧ Aside0 (Kd.R k34 34 wc w.heap.size (fun k_ => k_ ≠ gb190) (.slice (some ad189) t179.length co25) t179) ∧ Aside0 (wc.heap[gb186]? = some (.cells #[.int .i64 t183, .int .i64 t184, .int .i64 t185] 30 (0, 0))) ∧ Aside0 (wc.heap[gb190]? = some (.cells #[.int .i64 ((rd_T34 t179 x39_2).f0), .int .i64 ((rd_T34 t179 x39_2).f1), .int .i64 ((rd_T34 t179 x39_2).f2), .string ((rd_T34 t179 x39_2).f3)] 34 (0, 0))) ∧ Aside0 (Below w.heap.size w wc))
          case first =>
           have H := HC29.out
           clear HC29
           by_cases c33 : ((rd_T34 t179 x39_2).f0) ≤ x8_2
           ·rw [if_pos c33] at H
            exact absurd H (by simp)
           ·rw [if_neg c33] at H
            have c33b0 : decide (((rd_T34 t179 x39_2).f0) ≤ x8_2) = false := decide_eq_false c33
            clear c33
            (first | rw [c33b0] | (simp only [i64_w, i32_w]; rw [c33b0]) | skip)
            by_cases c34 : ((rd_T34 t179 x39_2).f0) ≥ (l0.length : Int)
            ·rw [if_pos c34] at H
             exact absurd H (by simp)
            ·rw [if_neg c34] at H
             have c34b0 : decide ((l0.length : Int) ≤ ((rd_T34 t179 x39_2).f0)) = false := decide_eq_false c34
             clear c34
             by_cases c35 : ((rd_T34 t179 x39_2).f1) < 0
             ·rw [if_pos c35] at H
              exact absurd H (by simp)
             ·rw [if_neg c35] at H
              have c35b0 : decide (((rd_T34 t179 x39_2).f1) < 0) = false := decide_eq_false c35
              clear c35
              by_cases c36 : ((rd_T34 t179 x39_2).f2) < ((rd_T34 t179 x39_2).f1)
              ·rw [if_pos c36] at H
               exact absurd H (by simp)
              ·rw [if_neg c36] at H
               have c36b0 : decide (((rd_T34 t179 x39_2).f2) < ((rd_T34 t179 x39_2).f1)) = false := decide_eq_false c36
               clear c36
               by_cases c37 : 0 ≤ ((rd_T34 t179 x39_2).f0)
               ·rw [if_pos c37] at H
                have c37b0 : decide (0 ≤ ((rd_T34 t179 x39_2).f0)) = true := decide_eq_true c37
                clear c37
                by_cases c38 : ((rd_T34 t179 x39_2).f0) < (l0.length : Int)
                ·rw [if_pos c38] at H
                 have c38b0 : decide (((rd_T34 t179 x39_2).f0) < (l0.length : Int)) = true := decide_eq_true c38
                 clear c38
                 have H' := Aside0.mk H
                 clear H
                 have hnb39 := NB190_186.out
                 have hnc39 := NB186_190.out
                 have hcz40_0 : w30.cell? ⟨gb190, 0, none⟩ = some (.int .i64 0) := (blk_cell BK190.out 0).trans rfl
                 have hcz40_1 : w30.cell? ⟨gb190, 1, none⟩ = some (.int .i64 0) := (blk_cell BK190.out 1).trans rfl
                 have hcz40_2 : w30.cell? ⟨gb190, 2, none⟩ = some (.int .i64 0) := (blk_cell BK190.out 2).trans rfl
                 have hcz40_3 : w30.cell? ⟨gb190, 3, none⟩ = some (.string (⟨#[]⟩ : ByteArray)) := (blk_cell BK190.out 3).trans rfl
                 have hfz40_0 := blk_frozen BK190.out 0
                 have hfz40_1 := blk_frozen BK190.out 1
                 have hfz40_2 := blk_frozen BK190.out 2
                 have hfz40_3 := blk_frozen BK190.out 3
                 have p191 : 0 ≤ (((rd_T34 t179 x39_2).f0) : Int) := of_decide_eq_true (by first | (with_reducible assumption) | assumption)
                 have q191 : ((rd_T34 t179 x39_2).f0) < (l0.length : Int) := of_decide_eq_true (by first | (with_reducible assumption) | assumption)
                 obtain ⟨ad191, e191, hx191_0, hx191_1⟩ := at_T36 HR0.out ((rd_T34 t179 x39_2).f0) p191 q191
                 cases e191
                 have hn191_0 : ad191.block ≠ gb190 := Nat.ne_of_lt (Nat.lt_of_lt_of_le (by have := World.block_lt_of_cell? _ _ hx191_0; first | rwa [add_block] at this | exact this) GW190.out)
                 have hn191_1 : ad191.block ≠ gb190 := Nat.ne_of_lt (Nat.lt_of_lt_of_le (by have := World.block_lt_of_cell? _ _ hx191_0; first | rwa [add_block] at this | exact this) GW190.out)
                 have hn191_2 : ad191.block ≠ gb190 := Nat.ne_of_lt (Nat.lt_of_lt_of_le (by have := World.block_lt_of_cell? _ _ hx191_0; first | rwa [add_block] at this | exact this) GW190.out)
                 have hn191_3 : ad191.block ≠ gb190 := Nat.ne_of_lt (Nat.lt_of_lt_of_le (by have := World.block_lt_of_cell? _ _ hx191_0; first | rwa [add_block] at this | exact this) GW190.out)
                 replace hx191_0 := (HB.out.cell (World.block_lt_of_cell? w _ hx191_0)).trans hx191_0
                 replace hx191_1 := (HB.out.cell (World.block_lt_of_cell? w _ hx191_1)).trans hx191_1
                 replace hx191_0 := (cell_far (p := ⟨gb190, 0, none⟩) (by first | (rw [add_block]; exact hn191_0) | (show (Addr.add _ _).block ≠ _; rw [add_block]; exact hn191_0) | exact hn191_0) (.int .i64 ((rd_T34 t179 x39_2).f0))).trans hx191_0
                 replace hx191_1 := (cell_far (p := ⟨gb190, 0, none⟩) (by first | (rw [add_block]; exact hn191_0) | (show (Addr.add _ _).block ≠ _; rw [add_block]; exact hn191_0) | exact hn191_0) (.int .i64 ((rd_T34 t179 x39_2).f0))).trans hx191_1
                 replace hx191_0 := (cell_far (p := ⟨gb190, 1, none⟩) (by first | (rw [add_block]; exact hn191_1) | (show (Addr.add _ _).block ≠ _; rw [add_block]; exact hn191_1) | exact hn191_1) (.int .i64 ((rd_T34 t179 x39_2).f1))).trans hx191_0
                 replace hx191_1 := (cell_far (p := ⟨gb190, 1, none⟩) (by first | (rw [add_block]; exact hn191_1) | (show (Addr.add _ _).block ≠ _; rw [add_block]; exact hn191_1) | exact hn191_1) (.int .i64 ((rd_T34 t179 x39_2).f1))).trans hx191_1
                 replace hx191_0 := (cell_far (p := ⟨gb190, 2, none⟩) (by first | (rw [add_block]; exact hn191_2) | (show (Addr.add _ _).block ≠ _; rw [add_block]; exact hn191_2) | exact hn191_2) (.int .i64 ((rd_T34 t179 x39_2).f2))).trans hx191_0
                 replace hx191_1 := (cell_far (p := ⟨gb190, 2, none⟩) (by first | (rw [add_block]; exact hn191_2) | (show (Addr.add _ _).block ≠ _; rw [add_block]; exact hn191_2) | exact hn191_2) (.int .i64 ((rd_T34 t179 x39_2).f2))).trans hx191_1
                 replace hx191_0 := (cell_far (p := ⟨gb190, 3, none⟩) (by first | (rw [add_block]; exact hn191_3) | (show (Addr.add _ _).block ≠ _; rw [add_block]; exact hn191_3) | exact hn191_3) (.string ((rd_T34 t179 x39_2).f3))).trans hx191_0
                 replace hx191_1 := (cell_far (p := ⟨gb190, 3, none⟩) (by first | (rw [add_block]; exact hn191_3) | (show (Addr.add _ _).block ≠ _; rw [add_block]; exact hn191_3) | exact hn191_3) (.string ((rd_T34 t179 x39_2).f3))).trans hx191_1
                 (try have hy191_0 := fun (n_ : Nat) => (show ((((((w30.drewN n_).setCell ⟨gb190, 0, none⟩ (.int .i64 ((rd_T34 t179 x39_2).f0))).setCell ⟨gb190, 1, none⟩ (.int .i64 ((rd_T34 t179 x39_2).f1))).setCell ⟨gb190, 2, none⟩ (.int .i64 ((rd_T34 t179 x39_2).f2))).setCell ⟨gb190, 3, none⟩ (.string ((rd_T34 t179 x39_2).f3)))).cell? _ = some _ from hx191_0))
                 (try have hy191_1 := fun (n_ : Nat) => (show ((((((w30.drewN n_).setCell ⟨gb190, 0, none⟩ (.int .i64 ((rd_T34 t179 x39_2).f0))).setCell ⟨gb190, 1, none⟩ (.int .i64 ((rd_T34 t179 x39_2).f1))).setCell ⟨gb190, 2, none⟩ (.int .i64 ((rd_T34 t179 x39_2).f2))).setCell ⟨gb190, 3, none⟩ (.string ((rd_T34 t179 x39_2).f3)))).cell? _ = some _ from hx191_1))
                 clear hn191_0
                 clear hn191_1
                 clear hn191_2
                 clear hn191_3
                 replace p191 := eq_true p191
                 replace q191 := eq_true q191
                 go_wp2
                 repeat (go_quiet (fail); try go_wp2)
                 go_meet
                 case rel => exact ⟨_, (decide (((rd_T34 t179 x39_2).f2) > (((rd_T36 l0 ((rd_T34 t179 x39_2).f0)).f1).size : Int))), (by first | rfl | (simp; done) | (simp [*]; done)), H', ⟨by have := HJ2.out; have := HK2.out; first | omega | exact Nat.le_refl _⟩, ⟨by (with_reducible repeat (first | apply Kd.R_alloc | apply Kd.R_drewN | apply Kd.R_drew)); exact Kd.R_mono (Kd.R_far (p := ⟨gb190, 3, none⟩) (Kd.R_far (p := ⟨gb190, 2, none⟩) (Kd.R_far (p := ⟨gb190, 1, none⟩) (Kd.R_far (p := ⟨gb190, 0, none⟩) (Kd.R_mono HO_37.out (fun k_ hk => (⟨hk, hk.2⟩ : _ ∧ k_ ≠ gb190))) (fun _ hk => hk.2) (.int .i64 ((rd_T34 t179 x39_2).f0))) (fun _ hk => hk.2) (.int .i64 ((rd_T34 t179 x39_2).f1))) (fun _ hk => hk.2) (.int .i64 ((rd_T34 t179 x39_2).f2))) (fun _ hk => hk.2) (.string ((rd_T34 t179 x39_2).f3))) (fun _ hk => hk.1.2)⟩, ⟨by (with_reducible repeat (first | refine blk_drewN ?_ _ | refine blk_drew ?_ | refine blk_alloc ?_ _)); refine blk_far ?_ NB186_190.out _; (with_reducible repeat (first | refine blk_drewN ?_ _ | refine blk_drew ?_ | refine blk_alloc ?_ _)); refine blk_far ?_ NB186_190.out _; (with_reducible repeat (first | refine blk_drewN ?_ _ | refine blk_drew ?_ | refine blk_alloc ?_ _)); refine blk_far ?_ NB186_190.out _; (with_reducible repeat (first | refine blk_drewN ?_ _ | refine blk_drew ?_ | refine blk_alloc ?_ _)); refine blk_far ?_ NB186_190.out _; (with_reducible repeat (first | refine blk_drewN ?_ _ | refine blk_drew ?_ | refine blk_alloc ?_ _)); exact BK186.out⟩, ⟨by (with_reducible repeat (first | refine blk_drewN ?_ _ | refine blk_drew ?_ | refine blk_alloc ?_ _)); refine blk_put (cs := #[.int .i64 ((rd_T34 t179 x39_2).f0), .int .i64 ((rd_T34 t179 x39_2).f1), .int .i64 ((rd_T34 t179 x39_2).f2), .string (⟨#[]⟩ : ByteArray)]) ?_ 3 _ rfl; (with_reducible repeat (first | refine blk_drewN ?_ _ | refine blk_drew ?_ | refine blk_alloc ?_ _)); refine blk_put (cs := #[.int .i64 ((rd_T34 t179 x39_2).f0), .int .i64 ((rd_T34 t179 x39_2).f1), .int .i64 0, .string (⟨#[]⟩ : ByteArray)]) ?_ 2 _ rfl; (with_reducible repeat (first | refine blk_drewN ?_ _ | refine blk_drew ?_ | refine blk_alloc ?_ _)); refine blk_put (cs := #[.int .i64 ((rd_T34 t179 x39_2).f0), .int .i64 0, .int .i64 0, .string (⟨#[]⟩ : ByteArray)]) ?_ 1 _ rfl; (with_reducible repeat (first | refine blk_drewN ?_ _ | refine blk_drew ?_ | refine blk_alloc ?_ _)); refine blk_put (cs := #[.int .i64 0, .int .i64 0, .int .i64 0, .string (⟨#[]⟩ : ByteArray)]) ?_ 0 _ rfl; (with_reducible repeat (first | refine blk_drewN ?_ _ | refine blk_drew ?_ | refine blk_alloc ?_ _)); exact BK190.out⟩, ⟨by repeat (first | (with_reducible first | exact HB.out | apply below_alloc | apply pw_below_drewN | apply below_drew1 | refine below_set ?_ GE186.out | refine below_set ?_ GE190.out) | exact HB.out)⟩⟩
                ·rw [if_neg c38] at H
                 exact absurd H (by simp)
               ·rw [if_neg c37] at H
                exact absurd H (by simp)
          case rest =>
           clear HC29
           (try clear c1);(try clear p1);(try clear q1);(try clear hx1);(try clear c2);(try clear p2);(try clear c3);(try clear c5);(try clear c10);(try clear c14);(try clear c14b0);(try clear c15);(try clear c15b0);(try clear c15b1);(try clear p18);(try clear q18);(try clear hx18);(try clear p19);(try clear q19);(try clear hx19);(try clear c26);(try clear c26b0);(try clear c27);(try clear c27b0);(try clear c28);(try clear c28b0);(try clear c31);(try clear c33);(try clear c33b0);(try clear c34);(try clear c34b0);(try clear c35);(try clear c35b0);(try clear c36);(try clear c36b0);(try clear c37);(try clear c37b0);(try clear c38);(try clear c38b0);(try clear c39);(try clear hcz19_0);(try clear hcz19_1);(try clear hcz19_2);(try clear hcz24_0);(try clear hcz24_1);(try clear hcz24_2);(try clear hcz32_0);(try clear hcz32_1);(try clear hcz32_2);(try clear hcz32_3);(try clear hcz40_0);(try clear hcz40_1);(try clear hcz40_2);(try clear hcz40_3);(try clear hfz19_0);(try clear hfz19_1);(try clear hfz19_2);(try clear hfz24_0);(try clear hfz24_1);(try clear hfz24_2);(try clear hfz32_0);(try clear hfz32_1);(try clear hfz32_2);(try clear hfz32_3);(try clear hfz40_0);(try clear hfz40_1);(try clear hfz40_2);(try clear hfz40_3);(try clear hx189_0);(try clear hx189_1);(try clear hx189_2);(try clear hx189_3);(try clear hx191_0);(try clear hx191_1);(try clear p189);(try clear p191);(try clear p2);(try clear q189);(try clear q191)
           obtain ⟨kq, x77_28, rfl, HA, HJ28, HO_37, BK186, BK190, HB⟩ := hcut
           cases kq with
           | zero => exact absurd HA.out (by simp [oriellaw35_MergeLittle.j2])
           | succ kj28 =>
            have H := HA.out
            clear HA
            simp only [oriellaw35_MergeLittle.j2] at H
            by_cases c41 : x77_28 = true
            ·subst c41
             have H1 : (none) = some r := by rw [if_pos rfl] at H; exact H
             clear H
             have H := H1
             clear H1
             exact absurd H (by simp)
            ·replace c41 := Bool.eq_false_iff.mpr c41
             subst c41
             have H1 : (if 0 ≤ ((rd_T34 t179 x39_2).f0) then (if ((rd_T34 t179 x39_2).f0) < (l0.length : Int) then (if 0 ≤ ((rd_T34 t179 x39_2).f1) then (if ((rd_T34 t179 x39_2).f1) ≤ ((rd_T34 t179 x39_2).f2) then (if ((rd_T34 t179 x39_2).f2) ≤ (((rd_T36 l0 ((rd_T34 t179 x39_2).f0)).f1).size : Int) then (if (((rd_T36 l0 ((rd_T34 t179 x39_2).f0)).f1).extract (((rd_T34 t179 x39_2).f1) : Int).toNat (((rd_T34 t179 x39_2).f2) : Int).toNat).toList = ((rd_T34 t179 x39_2).f3).toList then (none) else (if (((rd_T36 l0 ((rd_T34 t179 x39_2).f0)).f1).extract (((rd_T34 t179 x39_2).f1) : Int).toNat (((rd_T34 t179 x39_2).f2) : Int).toNat).toList = ([] : List UInt8) then (oriellaw35_MergeLittle.l0 kj28 l0 ((rd_T34 t179 x39_2).f0) t179 (t179.length : Int) (wrap64 (x39_2 + 1))) else (if ((rd_T34 t179 x39_2).f3).toList = ([] : List UInt8) then (oriellaw35_MergeLittle.l0 kj28 l0 ((rd_T34 t179 x39_2).f0) t179 (t179.length : Int) (wrap64 (x39_2 + 1))) else (if 0 < ((((rd_T36 l0 ((rd_T34 t179 x39_2).f0)).f1).extract (((rd_T34 t179 x39_2).f1) : Int).toNat (((rd_T34 t179 x39_2).f2) : Int).toNat).size : Int) then (if 0 < (((rd_T34 t179 x39_2).f3).size : Int) then (if (bt (((rd_T36 l0 ((rd_T34 t179 x39_2).f0)).f1).extract (((rd_T34 t179 x39_2).f1) : Int).toNat (((rd_T34 t179 x39_2).f2) : Int).toNat) 0) = (bt ((rd_T34 t179 x39_2).f3) 0) then (none) else (if 0 ≤ (wrap64 (((((rd_T36 l0 ((rd_T34 t179 x39_2).f0)).f1).extract (((rd_T34 t179 x39_2).f1) : Int).toNat (((rd_T34 t179 x39_2).f2) : Int).toNat).size : Int) - 1)) then (if (wrap64 (((((rd_T36 l0 ((rd_T34 t179 x39_2).f0)).f1).extract (((rd_T34 t179 x39_2).f1) : Int).toNat (((rd_T34 t179 x39_2).f2) : Int).toNat).size : Int) - 1)) < ((((rd_T36 l0 ((rd_T34 t179 x39_2).f0)).f1).extract (((rd_T34 t179 x39_2).f1) : Int).toNat (((rd_T34 t179 x39_2).f2) : Int).toNat).size : Int) then (if 0 ≤ (wrap64 ((((rd_T34 t179 x39_2).f3).size : Int) - 1)) then (if (wrap64 ((((rd_T34 t179 x39_2).f3).size : Int) - 1)) < (((rd_T34 t179 x39_2).f3).size : Int) then (if (bt (((rd_T36 l0 ((rd_T34 t179 x39_2).f0)).f1).extract (((rd_T34 t179 x39_2).f1) : Int).toNat (((rd_T34 t179 x39_2).f2) : Int).toNat) (wrap64 (((((rd_T36 l0 ((rd_T34 t179 x39_2).f0)).f1).extract (((rd_T34 t179 x39_2).f1) : Int).toNat (((rd_T34 t179 x39_2).f2) : Int).toNat).size : Int) - 1))) = (bt ((rd_T34 t179 x39_2).f3) (wrap64 ((((rd_T34 t179 x39_2).f3).size : Int) - 1))) then (none) else (oriellaw35_MergeLittle.l0 kj28 l0 ((rd_T34 t179 x39_2).f0) t179 (t179.length : Int) (wrap64 (x39_2 + 1)))) else (none)) else (none)) else (none)) else (none))) else (none)) else (none))))) else (none)) else (none)) else (none)) else (none)) else (none)) = some r := by rw [if_neg (show ¬ (false = true) by decide)] at H; exact H
             clear H
             have H := H1
             clear H1
             by_cases c42 : 0 ≤ ((rd_T34 t179 x39_2).f0)
             ·rw [if_pos c42] at H
              have c42b0 : decide (0 ≤ ((rd_T34 t179 x39_2).f0)) = true := decide_eq_true c42
              clear c42
              by_cases c43 : ((rd_T34 t179 x39_2).f0) < (l0.length : Int)
              ·rw [if_pos c43] at H
               have c43b0 : decide (((rd_T34 t179 x39_2).f0) < (l0.length : Int)) = true := decide_eq_true c43
               clear c43
               by_cases c44 : 0 ≤ ((rd_T34 t179 x39_2).f1)
               ·rw [if_pos c44] at H
                have c44b0 := eq_true c44
                have c44b1 : decide (0 ≤ ((rd_T34 t179 x39_2).f1)) = true := decide_eq_true c44
                clear c44
                by_cases c45 : ((rd_T34 t179 x39_2).f1) ≤ ((rd_T34 t179 x39_2).f2)
                ·rw [if_pos c45] at H
                 have c45b0 := eq_true c45
                 have c45b1 : decide (((rd_T34 t179 x39_2).f1) ≤ ((rd_T34 t179 x39_2).f2)) = true := decide_eq_true c45
                 clear c45
                 by_cases c46 : ((rd_T34 t179 x39_2).f2) ≤ (((rd_T36 l0 ((rd_T34 t179 x39_2).f0)).f1).size : Int)
                 ·rw [if_pos c46] at H
                  have c46b0 := eq_true c46
                  have c46b1 : decide (((rd_T34 t179 x39_2).f2) ≤ (((rd_T36 l0 ((rd_T34 t179 x39_2).f0)).f1).size : Int)) = true := decide_eq_true c46
                  clear c46
                  by_cases c47 : (((rd_T36 l0 ((rd_T34 t179 x39_2).f0)).f1).extract (((rd_T34 t179 x39_2).f1) : Int).toNat (((rd_T34 t179 x39_2).f2) : Int).toNat).toList = ((rd_T34 t179 x39_2).f3).toList
                  ·rw [if_pos c47] at H
                   exact absurd H (by simp)
                  ·rw [if_neg c47] at H
                   have c47b0 : ((((rd_T36 l0 ((rd_T34 t179 x39_2).f0)).f1).extract (((rd_T34 t179 x39_2).f1) : Int).toNat (((rd_T34 t179 x39_2).f2) : Int).toNat).toList == ((rd_T34 t179 x39_2).f3).toList) = false := beq_eq_false_iff_ne.mpr c47
                   have c47b1 : ((((rd_T36 l0 ((rd_T34 t179 x39_2).f0)).f1).extract (((rd_T34 t179 x39_2).f1) : Int).toNat (((rd_T34 t179 x39_2).f2) : Int).toNat).toList != ((rd_T34 t179 x39_2).f3).toList) = true := bne_iff_ne.mpr c47
                   by_cases c48 : (((rd_T36 l0 ((rd_T34 t179 x39_2).f0)).f1).extract (((rd_T34 t179 x39_2).f1) : Int).toNat (((rd_T34 t179 x39_2).f2) : Int).toNat).toList = ([] : List UInt8)
                   ·rw [if_pos c48] at H
                    have c48b0 : ((((rd_T36 l0 ((rd_T34 t179 x39_2).f0)).f1).extract (((rd_T34 t179 x39_2).f1) : Int).toNat (((rd_T34 t179 x39_2).f2) : Int).toNat).toList == ([] : List UInt8)) = true := beq_iff_eq.mpr c48
                    have c48b1 : ((((rd_T36 l0 ((rd_T34 t179 x39_2).f0)).f1).extract (((rd_T34 t179 x39_2).f1) : Int).toNat (((rd_T34 t179 x39_2).f2) : Int).toNat).toList != ([] : List UInt8)) = false := bne_eq_false_iff_eq.mpr c48
                    clear c48
                    have H' := Aside0.mk H
                    clear H
                    have hnb49 := NB190_186.out
                    have hnc49 := NB186_190.out
                    have hcz50_0 : wc.cell? ⟨gb190, 0, none⟩ = some (.int .i64 ((rd_T34 t179 x39_2).f0)) := (blk_cell BK190.out 0).trans rfl
                    have hcz50_1 : wc.cell? ⟨gb190, 1, none⟩ = some (.int .i64 ((rd_T34 t179 x39_2).f1)) := (blk_cell BK190.out 1).trans rfl
                    have hcz50_2 : wc.cell? ⟨gb190, 2, none⟩ = some (.int .i64 ((rd_T34 t179 x39_2).f2)) := (blk_cell BK190.out 2).trans rfl
                    have hcz50_3 : wc.cell? ⟨gb190, 3, none⟩ = some (.string ((rd_T34 t179 x39_2).f3)) := (blk_cell BK190.out 3).trans rfl
                    have hfz50_0 := blk_frozen BK190.out 0
                    have hfz50_1 := blk_frozen BK190.out 1
                    have hfz50_2 := blk_frozen BK190.out 2
                    have hfz50_3 := blk_frozen BK190.out 3
                    have p192 : 0 ≤ (((rd_T34 t179 x39_2).f0) : Int) := of_decide_eq_true (by first | (with_reducible assumption) | assumption)
                    have q192 : ((rd_T34 t179 x39_2).f0) < (l0.length : Int) := of_decide_eq_true (by first | (with_reducible assumption) | assumption)
                    obtain ⟨ad192, e192, hx192_0, hx192_1⟩ := at_T36 HR0.out ((rd_T34 t179 x39_2).f0) p192 q192
                    cases e192
                    replace hx192_0 := (HB.out.cell (World.block_lt_of_cell? w _ hx192_0)).trans hx192_0
                    replace hx192_1 := (HB.out.cell (World.block_lt_of_cell? w _ hx192_1)).trans hx192_1
                    replace p192 := eq_true p192
                    replace q192 := eq_true q192
                    go_wp2
                    repeat (go_quiet (fail); try go_wp2)
                    go_roundg kj28
                    case measure => have := HJ2.out; have := HK2.out; have := HJ28.out; omega
                    case rel => exact ⟨(((rd_T34 t179 x39_2).f0)), (wrap64 (x39_2 + 1)), (by first | rfl | (simp; done) | (simp [*]; done)), (by first | rfl | (simp; done) | (simp [*]; done)), H', ⟨by have := HJ2.out; have := HK2.out; have := HJ28.out; omega⟩, ⟨by (with_reducible repeat (first | apply Kd.R_alloc | apply Kd.R_drewN | apply Kd.R_drew)); exact Kd.R_mono HO_37.out (fun _ hk => trivial)⟩, ⟨by (with_reducible repeat (first | refine blk_drewN ?_ _ | refine blk_drew ?_ | refine blk_alloc ?_ _)); exact BK186.out⟩, ⟨by repeat (first | (with_reducible first | exact HB.out | apply below_alloc | apply pw_below_drewN | apply below_drew1 | refine below_set ?_ GE186.out | refine below_set ?_ GE190.out) | exact HB.out)⟩⟩
                   ·rw [if_neg c48] at H
                    have c48b0 : ((((rd_T36 l0 ((rd_T34 t179 x39_2).f0)).f1).extract (((rd_T34 t179 x39_2).f1) : Int).toNat (((rd_T34 t179 x39_2).f2) : Int).toNat).toList == ([] : List UInt8)) = false := beq_eq_false_iff_ne.mpr c48
                    have c48b1 : ((((rd_T36 l0 ((rd_T34 t179 x39_2).f0)).f1).extract (((rd_T34 t179 x39_2).f1) : Int).toNat (((rd_T34 t179 x39_2).f2) : Int).toNat).toList != ([] : List UInt8)) = true := bne_iff_ne.mpr c48
                    by_cases c51 : ((rd_T34 t179 x39_2).f3).toList = ([] : List UInt8)
                    ·rw [if_pos c51] at H
                     have c51b0 : (((rd_T34 t179 x39_2).f3).toList == ([] : List UInt8)) = true := beq_iff_eq.mpr c51
                     have c51b1 : (((rd_T34 t179 x39_2).f3).toList != ([] : List UInt8)) = false := bne_eq_false_iff_eq.mpr c51
                     clear c51
                     have H' := Aside0.mk H
                     clear H
                     have hnb52 := NB190_186.out
                     have hnc52 := NB186_190.out
                     have hcz53_0 : wc.cell? ⟨gb190, 0, none⟩ = some (.int .i64 ((rd_T34 t179 x39_2).f0)) := (blk_cell BK190.out 0).trans rfl
                     have hcz53_1 : wc.cell? ⟨gb190, 1, none⟩ = some (.int .i64 ((rd_T34 t179 x39_2).f1)) := (blk_cell BK190.out 1).trans rfl
                     have hcz53_2 : wc.cell? ⟨gb190, 2, none⟩ = some (.int .i64 ((rd_T34 t179 x39_2).f2)) := (blk_cell BK190.out 2).trans rfl
                     have hcz53_3 : wc.cell? ⟨gb190, 3, none⟩ = some (.string ((rd_T34 t179 x39_2).f3)) := (blk_cell BK190.out 3).trans rfl
                     have hfz53_0 := blk_frozen BK190.out 0
                     have hfz53_1 := blk_frozen BK190.out 1
                     have hfz53_2 := blk_frozen BK190.out 2
                     have hfz53_3 := blk_frozen BK190.out 3
                     have p192 : 0 ≤ (((rd_T34 t179 x39_2).f0) : Int) := of_decide_eq_true (by first | (with_reducible assumption) | assumption)
                     have q192 : ((rd_T34 t179 x39_2).f0) < (l0.length : Int) := of_decide_eq_true (by first | (with_reducible assumption) | assumption)
                     obtain ⟨ad192, e192, hx192_0, hx192_1⟩ := at_T36 HR0.out ((rd_T34 t179 x39_2).f0) p192 q192
                     cases e192
                     replace hx192_0 := (HB.out.cell (World.block_lt_of_cell? w _ hx192_0)).trans hx192_0
                     replace hx192_1 := (HB.out.cell (World.block_lt_of_cell? w _ hx192_1)).trans hx192_1
                     replace p192 := eq_true p192
                     replace q192 := eq_true q192
                     go_wp2
                     repeat (go_quiet (fail); try go_wp2)
                     go_roundg kj28
                     case measure => have := HJ2.out; have := HK2.out; have := HJ28.out; omega
                     case rel => exact ⟨(((rd_T34 t179 x39_2).f0)), (wrap64 (x39_2 + 1)), (by first | rfl | (simp; done) | (simp [*]; done)), (by first | rfl | (simp; done) | (simp [*]; done)), H', ⟨by have := HJ2.out; have := HK2.out; have := HJ28.out; omega⟩, ⟨by (with_reducible repeat (first | apply Kd.R_alloc | apply Kd.R_drewN | apply Kd.R_drew)); exact Kd.R_mono HO_37.out (fun _ hk => trivial)⟩, ⟨by (with_reducible repeat (first | refine blk_drewN ?_ _ | refine blk_drew ?_ | refine blk_alloc ?_ _)); exact BK186.out⟩, ⟨by repeat (first | (with_reducible first | exact HB.out | apply below_alloc | apply pw_below_drewN | apply below_drew1 | refine below_set ?_ GE186.out | refine below_set ?_ GE190.out) | exact HB.out)⟩⟩
                    ·rw [if_neg c51] at H
                     have c51b0 : (((rd_T34 t179 x39_2).f3).toList == ([] : List UInt8)) = false := beq_eq_false_iff_ne.mpr c51
                     have c51b1 : (((rd_T34 t179 x39_2).f3).toList != ([] : List UInt8)) = true := bne_iff_ne.mpr c51
                     by_cases c54 : 0 < ((((rd_T36 l0 ((rd_T34 t179 x39_2).f0)).f1).extract (((rd_T34 t179 x39_2).f1) : Int).toNat (((rd_T34 t179 x39_2).f2) : Int).toNat).size : Int)
                     ·rw [if_pos c54] at H
                      have c54b0 : decide (0 < ((((rd_T36 l0 ((rd_T34 t179 x39_2).f0)).f1).extract (((rd_T34 t179 x39_2).f1) : Int).toNat (((rd_T34 t179 x39_2).f2) : Int).toNat).size : Int)) = true := decide_eq_true c54
                      have c54b1 : decide (0 < (((rd_T36 l0 ((rd_T34 t179 x39_2).f0)).f1).extract (((rd_T34 t179 x39_2).f1) : Int).toNat (((rd_T34 t179 x39_2).f2) : Int).toNat).size) = true := decide_eq_true (by omega)
                      clear c54
                      by_cases c56 : 0 < (((rd_T34 t179 x39_2).f3).size : Int)
                      ·rw [if_pos c56] at H
                       have c56b0 : decide (0 < (((rd_T34 t179 x39_2).f3).size : Int)) = true := decide_eq_true c56
                       have c56b1 : decide (0 < ((rd_T34 t179 x39_2).f3).size) = true := decide_eq_true (by omega)
                       clear c56
                       by_cases c58 : (bt (((rd_T36 l0 ((rd_T34 t179 x39_2).f0)).f1).extract (((rd_T34 t179 x39_2).f1) : Int).toNat (((rd_T34 t179 x39_2).f2) : Int).toNat) 0) = (bt ((rd_T34 t179 x39_2).f3) 0)
                       ·rw [if_pos c58] at H
                        exact absurd H (by simp)
                       ·rw [if_neg c58] at H
                        have c58b0 : ((bt (((rd_T36 l0 ((rd_T34 t179 x39_2).f0)).f1).extract (((rd_T34 t179 x39_2).f1) : Int).toNat (((rd_T34 t179 x39_2).f2) : Int).toNat) 0) == (bt ((rd_T34 t179 x39_2).f3) 0)) = false := beq_eq_false_iff_ne.mpr c58
                        have c58b1 : ((bt (((rd_T36 l0 ((rd_T34 t179 x39_2).f0)).f1).extract (((rd_T34 t179 x39_2).f1) : Int).toNat (((rd_T34 t179 x39_2).f2) : Int).toNat) 0) != (bt ((rd_T34 t179 x39_2).f3) 0)) = true := bne_iff_ne.mpr c58
                        obtain ⟨ji59, hji59⟩ : ∃ j_ : Int, (wrap64 (((((rd_T36 l0 ((rd_T34 t179 x39_2).f0)).f1).extract (((rd_T34 t179 x39_2).f1) : Int).toNat (((rd_T34 t179 x39_2).f2) : Int).toNat).size : Int) - 1)) = j_ := ⟨_, rfl⟩
                        replace H : (if 0 ≤ (ji59) then (if (ji59) < ((((rd_T36 l0 ((rd_T34 t179 x39_2).f0)).f1).extract (((rd_T34 t179 x39_2).f1) : Int).toNat (((rd_T34 t179 x39_2).f2) : Int).toNat).size : Int) then (if 0 ≤ (wrap64 ((((rd_T34 t179 x39_2).f3).size : Int) - 1)) then (if (wrap64 ((((rd_T34 t179 x39_2).f3).size : Int) - 1)) < (((rd_T34 t179 x39_2).f3).size : Int) then (if (bt (((rd_T36 l0 ((rd_T34 t179 x39_2).f0)).f1).extract (((rd_T34 t179 x39_2).f1) : Int).toNat (((rd_T34 t179 x39_2).f2) : Int).toNat) (ji59)) = (bt ((rd_T34 t179 x39_2).f3) (wrap64 ((((rd_T34 t179 x39_2).f3).size : Int) - 1))) then (none) else (oriellaw35_MergeLittle.l0 kj28 l0 ((rd_T34 t179 x39_2).f0) t179 (t179.length : Int) (wrap64 (x39_2 + 1)))) else (none)) else (none)) else (none)) else (none)) = some r := by first | (rw [hji59] at H; exact H) | (simp only [hji59] at H ⊢; exact H)
                        have hji59w : (IntKind.i64.wrap (((((rd_T36 l0 ((rd_T34 t179 x39_2).f0)).f1).extract (((rd_T34 t179 x39_2).f1) : Int).toNat (((rd_T34 t179 x39_2).f2) : Int).toNat).size : Int) - 1)) = ji59 := (i64_w _).trans hji59
                        by_cases c60 : 0 ≤ (ji59)
                        ·rw [if_pos c60] at H
                         have c60b0 : decide (0 ≤ (ji59)) = true := decide_eq_true c60
                         clear c60
                         by_cases c61 : (ji59) < ((((rd_T36 l0 ((rd_T34 t179 x39_2).f0)).f1).extract (((rd_T34 t179 x39_2).f1) : Int).toNat (((rd_T34 t179 x39_2).f2) : Int).toNat).size : Int)
                         ·rw [if_pos c61] at H
                          have c61b0 : decide ((ji59) < ((((rd_T36 l0 ((rd_T34 t179 x39_2).f0)).f1).extract (((rd_T34 t179 x39_2).f1) : Int).toNat (((rd_T34 t179 x39_2).f2) : Int).toNat).size : Int)) = true := decide_eq_true c61
                          clear c61
                          obtain ⟨ji63, hji63⟩ : ∃ j_ : Int, (wrap64 ((((rd_T34 t179 x39_2).f3).size : Int) - 1)) = j_ := ⟨_, rfl⟩
                          replace H : (if 0 ≤ (ji63) then (if (ji63) < (((rd_T34 t179 x39_2).f3).size : Int) then (if (bt (((rd_T36 l0 ((rd_T34 t179 x39_2).f0)).f1).extract (((rd_T34 t179 x39_2).f1) : Int).toNat (((rd_T34 t179 x39_2).f2) : Int).toNat) (ji59)) = (bt ((rd_T34 t179 x39_2).f3) (ji63)) then (none) else (oriellaw35_MergeLittle.l0 kj28 l0 ((rd_T34 t179 x39_2).f0) t179 (t179.length : Int) (wrap64 (x39_2 + 1)))) else (none)) else (none)) = some r := by first | (rw [hji63] at H; exact H) | (simp only [hji63] at H ⊢; exact H)
                          have hji63w : (IntKind.i64.wrap ((((rd_T34 t179 x39_2).f3).size : Int) - 1)) = ji63 := (i64_w _).trans hji63
                          by_cases c64 : 0 ≤ (ji63)
                          ·rw [if_pos c64] at H
                           have c64b0 : decide (0 ≤ (ji63)) = true := decide_eq_true c64
                           clear c64
                           by_cases c65 : (ji63) < (((rd_T34 t179 x39_2).f3).size : Int)
                           ·rw [if_pos c65] at H
                            have c65b0 : decide ((ji63) < (((rd_T34 t179 x39_2).f3).size : Int)) = true := decide_eq_true c65
                            clear c65
                            by_cases c67 : (bt (((rd_T36 l0 ((rd_T34 t179 x39_2).f0)).f1).extract (((rd_T34 t179 x39_2).f1) : Int).toNat (((rd_T34 t179 x39_2).f2) : Int).toNat) (ji59)) = (bt ((rd_T34 t179 x39_2).f3) (ji63))
                            ·rw [if_pos c67] at H
                             exact absurd H (by simp)
                            ·rw [if_neg c67] at H
                             have c67b0 : ((bt (((rd_T36 l0 ((rd_T34 t179 x39_2).f0)).f1).extract (((rd_T34 t179 x39_2).f1) : Int).toNat (((rd_T34 t179 x39_2).f2) : Int).toNat) (ji59)) == (bt ((rd_T34 t179 x39_2).f3) (ji63))) = false := beq_eq_false_iff_ne.mpr c67
                             have c67b1 : ((bt (((rd_T36 l0 ((rd_T34 t179 x39_2).f0)).f1).extract (((rd_T34 t179 x39_2).f1) : Int).toNat (((rd_T34 t179 x39_2).f2) : Int).toNat) (ji59)) != (bt ((rd_T34 t179 x39_2).f3) (ji63))) = true := bne_iff_ne.mpr c67
                             have H' := Aside0.mk H
                             clear H
                             have hnb68 := NB190_186.out
                             have hnc68 := NB186_190.out
                             have hcz69_0 : wc.cell? ⟨gb190, 0, none⟩ = some (.int .i64 ((rd_T34 t179 x39_2).f0)) := (blk_cell BK190.out 0).trans rfl
                             have hcz69_1 : wc.cell? ⟨gb190, 1, none⟩ = some (.int .i64 ((rd_T34 t179 x39_2).f1)) := (blk_cell BK190.out 1).trans rfl
                             have hcz69_2 : wc.cell? ⟨gb190, 2, none⟩ = some (.int .i64 ((rd_T34 t179 x39_2).f2)) := (blk_cell BK190.out 2).trans rfl
                             have hcz69_3 : wc.cell? ⟨gb190, 3, none⟩ = some (.string ((rd_T34 t179 x39_2).f3)) := (blk_cell BK190.out 3).trans rfl
                             have hfz69_0 := blk_frozen BK190.out 0
                             have hfz69_1 := blk_frozen BK190.out 1
                             have hfz69_2 := blk_frozen BK190.out 2
                             have hfz69_3 := blk_frozen BK190.out 3
                             have p192 : 0 ≤ (((rd_T34 t179 x39_2).f0) : Int) := of_decide_eq_true (by first | (with_reducible assumption) | assumption)
                             have q192 : ((rd_T34 t179 x39_2).f0) < (l0.length : Int) := of_decide_eq_true (by first | (with_reducible assumption) | assumption)
                             obtain ⟨ad192, e192, hx192_0, hx192_1⟩ := at_T36 HR0.out ((rd_T34 t179 x39_2).f0) p192 q192
                             cases e192
                             replace hx192_0 := (HB.out.cell (World.block_lt_of_cell? w _ hx192_0)).trans hx192_0
                             replace hx192_1 := (HB.out.cell (World.block_lt_of_cell? w _ hx192_1)).trans hx192_1
                             replace p192 := eq_true p192
                             replace q192 := eq_true q192
                             have p55 : 0 ≤ (0 : Int) := (by omega)
                             have q55 : 0 < (((rd_T36 l0 ((rd_T34 t179 x39_2).f0)).f1).extract (((rd_T34 t179 x39_2).f1) : Int).toNat (((rd_T34 t179 x39_2).f2) : Int).toNat).size := (by have : (0 : Int) < ((((rd_T36 l0 ((rd_T34 t179 x39_2).f0)).f1).extract (((rd_T34 t179 x39_2).f1) : Int).toNat (((rd_T34 t179 x39_2).f2) : Int).toNat).size : Int) := of_decide_eq_true (by first | (with_reducible assumption) | assumption); omega)
                             have hx55 : ∀ h : 0 < (((rd_T36 l0 ((rd_T34 t179 x39_2).f0)).f1).extract (((rd_T34 t179 x39_2).f1) : Int).toNat (((rd_T34 t179 x39_2).f2) : Int).toNat).size, (((((rd_T36 l0 ((rd_T34 t179 x39_2).f0)).f1).extract (((rd_T34 t179 x39_2).f1) : Int).toNat (((rd_T34 t179 x39_2).f2) : Int).toNat)[0]'h).toNat : Int) = bt (((rd_T36 l0 ((rd_T34 t179 x39_2).f0)).f1).extract (((rd_T34 t179 x39_2).f1) : Int).toNat (((rd_T34 t179 x39_2).f2) : Int).toNat) 0 := bt_at (((rd_T36 l0 ((rd_T34 t179 x39_2).f0)).f1).extract (((rd_T34 t179 x39_2).f1) : Int).toNat (((rd_T34 t179 x39_2).f2) : Int).toNat) 0
                             clear p55
                             have qi55 : (0 < ((((rd_T36 l0 ((rd_T34 t179 x39_2).f0)).f1).extract (((rd_T34 t179 x39_2).f1) : Int).toNat (((rd_T34 t179 x39_2).f2) : Int).toNat).size : Int)) = True := eq_true (of_decide_eq_true (by first | (with_reducible assumption) | assumption))
                             replace q55 := eq_true q55
                             have p57 : 0 ≤ (0 : Int) := (by omega)
                             have q57 : 0 < ((rd_T34 t179 x39_2).f3).size := (by have : (0 : Int) < (((rd_T34 t179 x39_2).f3).size : Int) := of_decide_eq_true (by first | (with_reducible assumption) | assumption); omega)
                             have hx57 : ∀ h : 0 < ((rd_T34 t179 x39_2).f3).size, ((((rd_T34 t179 x39_2).f3)[0]'h).toNat : Int) = bt ((rd_T34 t179 x39_2).f3) 0 := bt_at ((rd_T34 t179 x39_2).f3) 0
                             clear p57
                             have qi57 : (0 < (((rd_T34 t179 x39_2).f3).size : Int)) = True := eq_true (of_decide_eq_true (by first | (with_reducible assumption) | assumption))
                             replace q57 := eq_true q57
                             have p62 : 0 ≤ ((ji59) : Int) := of_decide_eq_true (by first | (with_reducible assumption) | assumption)
                             have q62 : (ji59) < ((((rd_T36 l0 ((rd_T34 t179 x39_2).f0)).f1).extract (((rd_T34 t179 x39_2).f1) : Int).toNat (((rd_T34 t179 x39_2).f2) : Int).toNat).size : Int) := of_decide_eq_true (by first | (with_reducible assumption) | assumption)
                             have hx62 := bt_at (((rd_T36 l0 ((rd_T34 t179 x39_2).f0)).f1).extract (((rd_T34 t179 x39_2).f1) : Int).toNat (((rd_T34 t179 x39_2).f2) : Int).toNat) (ji59)
                             replace p62 := eq_true p62
                             replace q62 := eq_true q62
                             have p66 : 0 ≤ ((ji63) : Int) := of_decide_eq_true (by first | (with_reducible assumption) | assumption)
                             have q66 : (ji63) < (((rd_T34 t179 x39_2).f3).size : Int) := of_decide_eq_true (by first | (with_reducible assumption) | assumption)
                             have hx66 := bt_at ((rd_T34 t179 x39_2).f3) (ji63)
                             replace p66 := eq_true p66
                             replace q66 := eq_true q66
                             have hsz_ : (((rd_T36 l0 ((rd_T34 t179 x39_2).f0)).f1).extract ((rd_T34 t179 x39_2).f1 : Int).toNat ((rd_T34 t179 x39_2).f2 : Int).toNat).size = ((rd_T34 t179 x39_2).f2 : Int).toNat - ((rd_T34 t179 x39_2).f1 : Int).toNat := by rw [ByteArray.size_extract, Nat.min_eq_left (by have h_ := of_eq_true c46b0; omega)]
                             have q55s : (0 < ((rd_T34 t179 x39_2).f2 : Int).toNat - ((rd_T34 t179 x39_2).f1 : Int).toNat) = True := by rw [← hsz_]; exact q55
                             have hji59s := hji59
                             rw [hsz_] at hji59s
                             have hji59t := hji59w
                             rw [hsz_] at hji59t
                             have q62s := q62
                             rw [hsz_] at q62s
                             have c61s := c61b0
                             rw [hsz_] at c61s
                             go_wp2
                             repeat (go_quiet (fail); try go_wp2)
                             go_roundg kj28
                             case measure => have := HJ2.out; have := HK2.out; have := HJ28.out; omega
                             case rel => exact ⟨(((rd_T34 t179 x39_2).f0)), (wrap64 (x39_2 + 1)), (by first | rfl | (simp; done) | (simp [*]; done)), (by first | rfl | (simp; done) | (simp [*]; done)), H', ⟨by have := HJ2.out; have := HK2.out; have := HJ28.out; omega⟩, ⟨by (with_reducible repeat (first | apply Kd.R_alloc | apply Kd.R_drewN | apply Kd.R_drew)); exact Kd.R_mono HO_37.out (fun _ hk => trivial)⟩, ⟨by (with_reducible repeat (first | refine blk_drewN ?_ _ | refine blk_drew ?_ | refine blk_alloc ?_ _)); exact BK186.out⟩, ⟨by repeat (first | (with_reducible first | exact HB.out | apply below_alloc | apply pw_below_drewN | apply below_drew1 | refine below_set ?_ GE186.out | refine below_set ?_ GE190.out) | exact HB.out)⟩⟩
                           ·rw [if_neg c65] at H
                            exact absurd H (by simp)
                          ·rw [if_neg c64] at H
                           exact absurd H (by simp)
                         ·rw [if_neg c61] at H
                          exact absurd H (by simp)
                        ·rw [if_neg c60] at H
                         exact absurd H (by simp)
                      ·rw [if_neg c56] at H
                       exact absurd H (by simp)
                     ·rw [if_neg c54] at H
                      exact absurd H (by simp)
                 ·rw [if_neg c46] at H
                  exact absurd H (by simp)
                ·rw [if_neg c45] at H
                 exact absurd H (by simp)
               ·rw [if_neg c44] at H
                exact absurd H (by simp)
              ·rw [if_neg c43] at H
               exact absurd H (by simp)
             ·rw [if_neg c42] at H
              exact absurd H (by simp)
         ·rw [if_neg c28] at H
          exact absurd H (by simp)
        ·rw [if_neg c27] at H
         exact absurd H (by simp)
       ·rw [if_neg c26] at H
        have c26b0 : decide (x39_2 < (t179.length : Int)) = false := decide_eq_false c26
        clear c26
        replace H := Option.bind_eq_some_iff.mp H
        obtain ⟨t188, A700, H⟩ := H
        replace H : (some t188) = some r := H
        have A70 := Aside0.mk A700
        clear A700
        obtain rfl := Option.some.inj H
        go_wp2_with (first | (go_at_call 9; (with_reducible refine (oriellaw35_alive.calls k2  t188 _ A70.out).mono ?_); rintro e w71 ⟨rfl, hb⟩; have n0_ := Aside0.mk (Kd.R_below (by (with_reducible repeat (first | apply Kd.R_alloc | apply Kd.R_drewN | apply Kd.R_drew)); exact HO_37.out) hb); have n1_ := Aside0.mk (blk_below (g := gb186) (o := .cells #[.int .i64 t183, .int .i64 t184, .int .i64 t185] 30 (0, 0)) (by (with_reducible repeat (first | refine blk_drewN ?_ _ | refine blk_drew ?_ | refine blk_alloc ?_ _)); exact BK186.out) hb); have n2_ := Aside0.mk (below_step (by repeat (first | (with_reducible first | exact HB.out | apply below_alloc | apply pw_below_drewN | apply below_drew1 | refine below_set ?_ GE186.out) | exact HB.out)) hb); clear HO_37; clear BK186; clear HB; have HO_37 := n0_; have BK186 := n1_; have HB := n2_; clear n0_ n1_ n2_; (try clear hb); (try clear hb2); (try clear hk); (try clear hi)))
        repeat (go_quiet (first | (go_at_call 9; (with_reducible refine (oriellaw35_alive.calls k2  t188 _ A70.out).mono ?_); rintro e w71 ⟨rfl, hb⟩; have n0_ := Aside0.mk (Kd.R_below (by (with_reducible repeat (first | apply Kd.R_alloc | apply Kd.R_drewN | apply Kd.R_drew)); exact HO_37.out) hb); have n1_ := Aside0.mk (blk_below (g := gb186) (o := .cells #[.int .i64 t183, .int .i64 t184, .int .i64 t185] 30 (0, 0)) (by (with_reducible repeat (first | refine blk_drewN ?_ _ | refine blk_drew ?_ | refine blk_alloc ?_ _)); exact BK186.out) hb); have n2_ := Aside0.mk (below_step (by repeat (first | (with_reducible first | exact HB.out | apply below_alloc | apply pw_below_drewN | apply below_drew1 | refine below_set ?_ GE186.out) | exact HB.out)) hb); clear HO_37; clear BK186; clear HB; have HO_37 := n0_; have BK186 := n1_; have HB := n2_; clear n0_ n1_ n2_; (try clear hb); (try clear hb2); (try clear hk); (try clear hi))); try go_wp2_with (first | (go_at_call 9; (with_reducible refine (oriellaw35_alive.calls k2  t188 _ A70.out).mono ?_); rintro e w71 ⟨rfl, hb⟩; have n0_ := Aside0.mk (Kd.R_below (by (with_reducible repeat (first | apply Kd.R_alloc | apply Kd.R_drewN | apply Kd.R_drew)); exact HO_37.out) hb); have n1_ := Aside0.mk (blk_below (g := gb186) (o := .cells #[.int .i64 t183, .int .i64 t184, .int .i64 t185] 30 (0, 0)) (by (with_reducible repeat (first | refine blk_drewN ?_ _ | refine blk_drew ?_ | refine blk_alloc ?_ _)); exact BK186.out) hb); have n2_ := Aside0.mk (below_step (by repeat (first | (with_reducible first | exact HB.out | apply below_alloc | apply pw_below_drewN | apply below_drew1 | refine below_set ?_ GE186.out) | exact HB.out)) hb); clear HO_37; clear BK186; clear HB; have HO_37 := n0_; have BK186 := n1_; have HB := n2_; clear n0_ n1_ n2_; (try clear hb); (try clear hb2); (try clear hk); (try clear hi))))
        go_ret
        exact ⟨by first | rfl | (simp [errW_none, errW_some] <;> rfl) | (simp [*, errW_none, errW_some] <;> rfl), by repeat (first | (with_reducible first | exact HB.out | apply below_alloc | apply pw_below_drewN | apply below_drew1 | refine below_set ?_ GE186.out) | exact HB.out)⟩
end Go.Proofs.Ytclcnglamlegiaa.PML
