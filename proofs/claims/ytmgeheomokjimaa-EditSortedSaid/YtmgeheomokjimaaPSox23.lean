-- Written by ownprint.py, a program of this session (out of the kit's print, with contracts of the session's own).
import Derived.Test.YtmgeheomokjimaaPSox0
import Derived.Test.YtmgeheomokjimaaPSox1
import Derived.Test.YtmgeheomokjimaaPSox2
import Derived.Test.YtmgeheomokjimaaPSox3
import Derived.Test.YtmgeheomokjimaaPSox9
import Derived.Test.YtmgeheomokjimaaPSox10
import Derived.Test.YtmgeheomokjimaaPSox20
namespace Go.Proofs.Ytmgeheomokjimaa.PSo
open Go.RowKit Go.Proofs.YtmgeheomokjimaaW.PrintWords Go.Proofs.YtmgeheomokjimaaW.PrintLast Go.Proofs.YtmgeheomokjimaaW.PrintMore
attribute [local go_sem] max2_int min2_int max_two min_two max_three min_three max_four min_four   -- for this text's walks alone
set_option linter.unusedVariables false
set_option linter.unusedSimpArgs false
attribute [local go_sem high] eqA47
mutual
def oriellaw02_EditSorted.j0 : Nat → ByteArray → List (S47) → Bool → Option (Bool)
 | 0, _, _, _ => none
 | k + 1, x0, x1, x19 => if x19 = true then ((oriellaw02_alive.f k).bind fun t261 => (some t261)) else ((edit_Sorted.f k x1).bind fun t262 => (if (t262.length : Int) = (x1.length : Int) then ((edit_Sorted.f k t262).bind fun t265 => ((orielref02_Same.f k t265 t262).bind fun t268 => (oriellaw02_EditSorted.j1 k x0 x1 t262 (!t268)))) else (none)))
def oriellaw02_EditSorted.j1 : Nat → ByteArray → List (S47) → List (S47) → Bool → Option (Bool)
 | 0, _, _, _, _ => none
 | k + 1, x0, x1, x5, x34 => if x34 = true then (none) else (oriellaw02_EditSorted.l0 k x0 x1 x5 x1 (x1.length : Int) 0)
def oriellaw02_EditSorted.l0 : Nat → ByteArray → List (S47) → List (S47) → List (S47) → Int → Int → Option (Bool)
 | 0, _, _, _, _, _, _ => none
 | k + 1, x0, x1, x5, x35, x36, x37 => if x37 < x36 then (if 0 ≤ x37 then (if x37 < (x35.length : Int) then (oriellaw02_EditSorted.l1 k x0 x1 x5 0 0 x35 x36 x37 (x1.length : Int) 0 ((rd_T47 x35 x37).f0) ((rd_T47 x35 x37).f1) ((rd_T47 x35 x37).f2)) else (none)) else (none)) else (oriellaw02_EditSorted.l2 k x0 x1 x5 1)
def oriellaw02_EditSorted.l1 : Nat → ByteArray → List (S47) → List (S47) → Int → Int → List (S47) → Int → Int → Int → Int → Int → Int → ByteArray → Option (Bool)
 | 0, _, _, _, _, _, _, _, _, _, _, _, _, _ => none
 | k + 1, x0, x1, x5, x8, x9, x35, x36, x37, x42, x43, x271000, x271001, x271002 => if x43 < x42 then (if 0 ≤ x43 then (if x43 < (x1.length : Int) then (if (((rd_T47 x1 x43).f0) == x271000 && (((rd_T47 x1 x43).f1) == x271001 && ((((rd_T47 x1 x43).f2).toList) == x271002.toList))) = true then (if x43 < (x5.length : Int) then (if (((rd_T47 x5 x43).f0) == x271000 && (((rd_T47 x5 x43).f1) == x271001 && ((((rd_T47 x5 x43).f2).toList) == x271002.toList))) = true then (oriellaw02_EditSorted.l1 k x0 x1 x5 (wrap64 (x8 + 1)) (wrap64 (x9 + 1)) x35 x36 x37 x42 (wrap64 (x43 + 1)) x271000 x271001 x271002) else (oriellaw02_EditSorted.l1 k x0 x1 x5 (wrap64 (x8 + 1)) x9 x35 x36 x37 x42 (wrap64 (x43 + 1)) x271000 x271001 x271002)) else (none)) else (if x43 < (x5.length : Int) then (if (((rd_T47 x5 x43).f0) == x271000 && (((rd_T47 x5 x43).f1) == x271001 && ((((rd_T47 x5 x43).f2).toList) == x271002.toList))) = true then (oriellaw02_EditSorted.l1 k x0 x1 x5 x8 (wrap64 (x9 + 1)) x35 x36 x37 x42 (wrap64 (x43 + 1)) x271000 x271001 x271002) else (oriellaw02_EditSorted.l1 k x0 x1 x5 x8 x9 x35 x36 x37 x42 (wrap64 (x43 + 1)) x271000 x271001 x271002)) else (none))) else (none)) else (none)) else (if x8 = x9 then (oriellaw02_EditSorted.l0 k x0 x1 x5 x35 x36 (wrap64 (x37 + 1))) else (none))
def oriellaw02_EditSorted.l2 : Nat → ByteArray → List (S47) → List (S47) → Int → Option (Bool)
 | 0, _, _, _, _ => none
 | k + 1, x0, x1, x5, x11 => if x11 < (x5.length : Int) then (if 0 ≤ (wrap64 (x11 - 1)) then (if (wrap64 (x11 - 1)) < (x5.length : Int) then (if 0 ≤ x11 then (if ((rd_T47 x5 (wrap64 (x11 - 1))).f0) > ((rd_T47 x5 x11).f0) then (none) else (if ((rd_T47 x5 (wrap64 (x11 - 1))).f0) = ((rd_T47 x5 x11).f0) then (if ((rd_T47 x5 (wrap64 (x11 - 1))).f1) > ((rd_T47 x5 x11).f1) then (none) else (oriellaw02_EditSorted.l2 k x0 x1 x5 (wrap64 (x11 + 1)))) else (oriellaw02_EditSorted.l2 k x0 x1 x5 (wrap64 (x11 + 1))))) else (none)) else (none)) else (none)) else ((edit_Check.f k (x0.size : Int) x1).bind fun t280 => (if t280 = 0 then ((orielref02_Same.f k x5 x1).bind fun t281 => (if t281 = true then ((oriellaw02_alive.f k).bind fun t282 => (some t282)) else (none))) else ((oriellaw02_alive.f k).bind fun t283 => (some t283))))
end
def oriellaw02_EditSorted.f (k : Nat) (a0 : ByteArray) (l1 : List (S47)) : Option (Bool) := if (a0.size : Int) > 400 then (oriellaw02_EditSorted.j0 k a0 l1 true) else ((oriellaw02_few.f k l1).bind fun t260 => (oriellaw02_EditSorted.j0 k a0 l1 (!t260)))
theorem oriellaw02_EditSorted.mono_l : ∀ k, (∀ y0 y1 y2, LeO (oriellaw02_EditSorted.j0 k y0 y1 y2) (oriellaw02_EditSorted.j0 (k + 1) y0 y1 y2)) ∧ (∀ y0 y1 y2 y3, LeO (oriellaw02_EditSorted.j1 k y0 y1 y2 y3) (oriellaw02_EditSorted.j1 (k + 1) y0 y1 y2 y3)) ∧ (∀ y0 y1 y2 y3 y4 y5, LeO (oriellaw02_EditSorted.l0 k y0 y1 y2 y3 y4 y5) (oriellaw02_EditSorted.l0 (k + 1) y0 y1 y2 y3 y4 y5)) ∧ (∀ y0 y1 y2 y3 y4 y5 y6 y7 y8 y9 y10 y11 y12, LeO (oriellaw02_EditSorted.l1 k y0 y1 y2 y3 y4 y5 y6 y7 y8 y9 y10 y11 y12) (oriellaw02_EditSorted.l1 (k + 1) y0 y1 y2 y3 y4 y5 y6 y7 y8 y9 y10 y11 y12)) ∧ (∀ y0 y1 y2 y3, LeO (oriellaw02_EditSorted.l2 k y0 y1 y2 y3) (oriellaw02_EditSorted.l2 (k + 1) y0 y1 y2 y3))
 | 0 => ⟨fun _ _ _ r h => by simp [oriellaw02_EditSorted.j0] at h, fun _ _ _ _ r h => by simp [oriellaw02_EditSorted.j1] at h, fun _ _ _ _ _ _ r h => by simp [oriellaw02_EditSorted.l0] at h, fun _ _ _ _ _ _ _ _ _ _ _ _ _ r h => by simp [oriellaw02_EditSorted.l1] at h, fun _ _ _ _ r h => by simp [oriellaw02_EditSorted.l2] at h⟩
 | k + 1 => by
  obtain ⟨ih0, ih1, ih2, ih3, ih4⟩ := oriellaw02_EditSorted.mono_l k
  refine ⟨?_, ?_, ?_, ?_, ?_⟩
  ·intro y0 y1 y2
   unfold oriellaw02_EditSorted.j0
   repeat' first
   | (with_reducible exact ih0 _ _ _)
   | (with_reducible exact ih1 _ _ _ _)
   | (with_reducible exact ih2 _ _ _ _ _ _)
   | (with_reducible exact ih3 _ _ _ _ _ _ _ _ _ _ _ _ _)
   | (with_reducible exact ih4 _ _ _ _)
   | (with_reducible exact edit_Check.mono _ _ _)
   | (with_reducible exact edit_Sorted.mono _ _)
   | (with_reducible exact oriellaw02_alive.mono _)
   | (with_reducible exact oriellaw02_few.mono _ _)
   | (with_reducible exact orielref02_Same.mono _ _ _)
   | (with_reducible exact LeO.refl _)
   | (with_reducible exact LeO.none _)
   | (with_reducible refine LeO.ite ?_ ?_)
   | (with_reducible refine LeO.bind ?_ (fun _ => ?_))
   | exact ih0 _ _ _
   | exact ih1 _ _ _ _
   | exact ih2 _ _ _ _ _ _
   | exact ih3 _ _ _ _ _ _ _ _ _ _ _ _ _
   | exact ih4 _ _ _ _
   | exact edit_Check.mono _ _ _
   | exact edit_Sorted.mono _ _
   | exact oriellaw02_alive.mono _
   | exact oriellaw02_few.mono _ _
   | exact orielref02_Same.mono _ _ _
   | exact LeO.none _
   | refine LeO.ite ?_ ?_
   | refine LeO.bind ?_ (fun _ => ?_)
  ·intro y0 y1 y2 y3
   unfold oriellaw02_EditSorted.j1
   repeat' first
   | (with_reducible exact ih0 _ _ _)
   | (with_reducible exact ih1 _ _ _ _)
   | (with_reducible exact ih2 _ _ _ _ _ _)
   | (with_reducible exact ih3 _ _ _ _ _ _ _ _ _ _ _ _ _)
   | (with_reducible exact ih4 _ _ _ _)
   | (with_reducible exact edit_Check.mono _ _ _)
   | (with_reducible exact edit_Sorted.mono _ _)
   | (with_reducible exact oriellaw02_alive.mono _)
   | (with_reducible exact oriellaw02_few.mono _ _)
   | (with_reducible exact orielref02_Same.mono _ _ _)
   | (with_reducible exact LeO.refl _)
   | (with_reducible exact LeO.none _)
   | (with_reducible refine LeO.ite ?_ ?_)
   | (with_reducible refine LeO.bind ?_ (fun _ => ?_))
   | exact ih0 _ _ _
   | exact ih1 _ _ _ _
   | exact ih2 _ _ _ _ _ _
   | exact ih3 _ _ _ _ _ _ _ _ _ _ _ _ _
   | exact ih4 _ _ _ _
   | exact edit_Check.mono _ _ _
   | exact edit_Sorted.mono _ _
   | exact oriellaw02_alive.mono _
   | exact oriellaw02_few.mono _ _
   | exact orielref02_Same.mono _ _ _
   | exact LeO.none _
   | refine LeO.ite ?_ ?_
   | refine LeO.bind ?_ (fun _ => ?_)
  ·intro y0 y1 y2 y3 y4 y5
   unfold oriellaw02_EditSorted.l0
   repeat' first
   | (with_reducible exact ih0 _ _ _)
   | (with_reducible exact ih1 _ _ _ _)
   | (with_reducible exact ih2 _ _ _ _ _ _)
   | (with_reducible exact ih3 _ _ _ _ _ _ _ _ _ _ _ _ _)
   | (with_reducible exact ih4 _ _ _ _)
   | (with_reducible exact edit_Check.mono _ _ _)
   | (with_reducible exact edit_Sorted.mono _ _)
   | (with_reducible exact oriellaw02_alive.mono _)
   | (with_reducible exact oriellaw02_few.mono _ _)
   | (with_reducible exact orielref02_Same.mono _ _ _)
   | (with_reducible exact LeO.refl _)
   | (with_reducible exact LeO.none _)
   | (with_reducible refine LeO.ite ?_ ?_)
   | (with_reducible refine LeO.bind ?_ (fun _ => ?_))
   | exact ih0 _ _ _
   | exact ih1 _ _ _ _
   | exact ih2 _ _ _ _ _ _
   | exact ih3 _ _ _ _ _ _ _ _ _ _ _ _ _
   | exact ih4 _ _ _ _
   | exact edit_Check.mono _ _ _
   | exact edit_Sorted.mono _ _
   | exact oriellaw02_alive.mono _
   | exact oriellaw02_few.mono _ _
   | exact orielref02_Same.mono _ _ _
   | exact LeO.none _
   | refine LeO.ite ?_ ?_
   | refine LeO.bind ?_ (fun _ => ?_)
  ·intro y0 y1 y2 y3 y4 y5 y6 y7 y8 y9 y10 y11 y12
   unfold oriellaw02_EditSorted.l1
   repeat' first
   | (with_reducible exact ih0 _ _ _)
   | (with_reducible exact ih1 _ _ _ _)
   | (with_reducible exact ih2 _ _ _ _ _ _)
   | (with_reducible exact ih3 _ _ _ _ _ _ _ _ _ _ _ _ _)
   | (with_reducible exact ih4 _ _ _ _)
   | (with_reducible exact edit_Check.mono _ _ _)
   | (with_reducible exact edit_Sorted.mono _ _)
   | (with_reducible exact oriellaw02_alive.mono _)
   | (with_reducible exact oriellaw02_few.mono _ _)
   | (with_reducible exact orielref02_Same.mono _ _ _)
   | (with_reducible exact LeO.refl _)
   | (with_reducible exact LeO.none _)
   | (with_reducible refine LeO.ite ?_ ?_)
   | (with_reducible refine LeO.bind ?_ (fun _ => ?_))
   | exact ih0 _ _ _
   | exact ih1 _ _ _ _
   | exact ih2 _ _ _ _ _ _
   | exact ih3 _ _ _ _ _ _ _ _ _ _ _ _ _
   | exact ih4 _ _ _ _
   | exact edit_Check.mono _ _ _
   | exact edit_Sorted.mono _ _
   | exact oriellaw02_alive.mono _
   | exact oriellaw02_few.mono _ _
   | exact orielref02_Same.mono _ _ _
   | exact LeO.none _
   | refine LeO.ite ?_ ?_
   | refine LeO.bind ?_ (fun _ => ?_)
  ·intro y0 y1 y2 y3
   unfold oriellaw02_EditSorted.l2
   repeat' first
   | (with_reducible exact ih0 _ _ _)
   | (with_reducible exact ih1 _ _ _ _)
   | (with_reducible exact ih2 _ _ _ _ _ _)
   | (with_reducible exact ih3 _ _ _ _ _ _ _ _ _ _ _ _ _)
   | (with_reducible exact ih4 _ _ _ _)
   | (with_reducible exact edit_Check.mono _ _ _)
   | (with_reducible exact edit_Sorted.mono _ _)
   | (with_reducible exact oriellaw02_alive.mono _)
   | (with_reducible exact oriellaw02_few.mono _ _)
   | (with_reducible exact orielref02_Same.mono _ _ _)
   | (with_reducible exact LeO.refl _)
   | (with_reducible exact LeO.none _)
   | (with_reducible refine LeO.ite ?_ ?_)
   | (with_reducible refine LeO.bind ?_ (fun _ => ?_))
   | exact ih0 _ _ _
   | exact ih1 _ _ _ _
   | exact ih2 _ _ _ _ _ _
   | exact ih3 _ _ _ _ _ _ _ _ _ _ _ _ _
   | exact ih4 _ _ _ _
   | exact edit_Check.mono _ _ _
   | exact edit_Sorted.mono _ _
   | exact oriellaw02_alive.mono _
   | exact oriellaw02_few.mono _ _
   | exact orielref02_Same.mono _ _ _
   | exact LeO.none _
   | refine LeO.ite ?_ ?_
   | refine LeO.bind ?_ (fun _ => ?_)
theorem oriellaw02_EditSorted.mono : ∀ a0 a1 k, LeO (oriellaw02_EditSorted.f k a0 a1) (oriellaw02_EditSorted.f (k + 1) a0 a1) := by
 intro a0 a1 k
 obtain ⟨ih0, ih1, ih2, ih3, ih4⟩ := oriellaw02_EditSorted.mono_l k
 unfold oriellaw02_EditSorted.f
 repeat' first
   | (with_reducible exact ih0 _ _ _)
   | (with_reducible exact ih1 _ _ _ _)
   | (with_reducible exact ih2 _ _ _ _ _ _)
   | (with_reducible exact ih3 _ _ _ _ _ _ _ _ _ _ _ _ _)
   | (with_reducible exact ih4 _ _ _ _)
   | (with_reducible exact edit_Check.mono _ _ _)
   | (with_reducible exact edit_Sorted.mono _ _)
   | (with_reducible exact oriellaw02_alive.mono _)
   | (with_reducible exact oriellaw02_few.mono _ _)
   | (with_reducible exact orielref02_Same.mono _ _ _)
   | (with_reducible exact LeO.refl _)
   | (with_reducible exact LeO.none _)
   | (with_reducible refine LeO.ite ?_ ?_)
   | (with_reducible refine LeO.bind ?_ (fun _ => ?_))
   | exact ih0 _ _ _
   | exact ih1 _ _ _ _
   | exact ih2 _ _ _ _ _ _
   | exact ih3 _ _ _ _ _ _ _ _ _ _ _ _ _
   | exact ih4 _ _ _ _
   | exact edit_Check.mono _ _ _
   | exact edit_Sorted.mono _ _
   | exact oriellaw02_alive.mono _
   | exact oriellaw02_few.mono _ _
   | exact orielref02_Same.mono _ _ _
   | exact LeO.none _
   | refine LeO.ite ?_ ?_
   | refine LeO.bind ?_ (fun _ => ?_)
set_option maxHeartbeats 8000000 in
set_option maxRecDepth 100000 in
theorem oriellaw02_EditSorted.calls (k : Nat) (a0 : ByteArray) (A1 : Option Addr) (c1 : Nat) (l1 : List (S47)) (r : Bool) (w : World) (hr1 : Kd.C k47 w A1 l1.length l1) (hc1 : l1.length ≤ c1) (h : oriellaw02_EditSorted.f k a0 l1 = some r) :
  Calls Try.prog 8 #[.string a0, .slice A1 l1.length c1] w fun e w' => e = .returned (.bool r) ∧ Below w.heap.size w w' := by
 have hu47 := Try.underlying47
 have HR1 := Aside0.mk hr1
 have HC1 := Aside0.mk hc1
 clear hr1 hc1
 have HB := Aside0.mk (Below.refl w.heap.size w)
 have H : (if (a0.size : Int) > 400 then (oriellaw02_EditSorted.j0 k a0 l1 true) else ((oriellaw02_few.f k l1).bind fun t260 => (oriellaw02_EditSorted.j0 k a0 l1 (!t260)))) = some r := h
 clear h
 have HC3 := Aside0.mk H
 clear H
 go_enter Try.func8, Try.ntmps8
 go_upto_region 1 with (fail)
 repeat (go_quiet (fail); go_upto_region 1 with (fail))
 go_cut [19] (fun v19 wc => ∃ (kq : Nat) (x19_2 : Bool), v19 = .bool x19_2 ∧ Aside0 (oriellaw02_EditSorted.j0 kq a0 l1 x19_2 = some r) ∧ Aside0 (kq ≤ k) ∧ Aside0 (Below w.heap.size w wc))
 case first =>
  have H := HC3.out
  clear HC3
  by_cases c4 : (a0.size : Int) > 400
  ·rw [if_pos c4] at H
   have c4b0 : decide (400 < (a0.size : Int)) = true := decide_eq_true c4
   have c4b1 : decide (400 < a0.size) = true := decide_eq_true (by omega)
   clear c4
   (first | rw [c4b0] | (simp only [i64_w, i32_w]; rw [c4b0]) | skip)
   have H' := Aside0.mk H
   clear H
   go_wp2
   repeat (go_quiet (fail); try go_wp2)
   go_meet
   case rel => exact ⟨_, (true), (by first | rfl | (simp; done) | (simp [*]; done)), H', ⟨by first | omega | exact Nat.le_refl _⟩, ⟨by repeat (first | (with_reducible first | exact HB.out | apply below_alloc | apply pw_below_drewN | apply below_drew1) | exact HB.out)⟩⟩
  ·rw [if_neg c4] at H
   have c4b0 : decide (400 < (a0.size : Int)) = false := decide_eq_false c4
   have c4b1 : decide (400 < a0.size) = false := decide_eq_false (by omega)
   clear c4
   (first | rw [c4b0] | (simp only [i64_w, i32_w]; rw [c4b0]) | skip)
   replace H := Option.bind_eq_some_iff.mp H
   obtain ⟨t260, A50, H⟩ := H
   replace H : (oriellaw02_EditSorted.j0 k a0 l1 (!t260)) = some r := H
   have A5 := Aside0.mk A50
   clear A50
   have H' := Aside0.mk H
   clear H
   go_wp2_with (first | (go_at_call 9; (with_reducible refine (oriellaw02_few.calls k _ _ l1 t260 _ ?side1 ?side2 A5.out).mono ?_); (case side1 => repeat (first | exact (Kd.C_below HR1.out HB.out) | (with_reducible refine Kd.C_alloc ?_ _) | (with_reducible refine Kd.C_drewN ?_ _) | (with_reducible refine Kd.C_drew ?_))); (case side2 => exact HC1.out); rintro e w6 ⟨rfl, hb⟩; have n0_ := Aside0.mk (below_step (by repeat (first | (with_reducible first | exact HB.out | apply below_alloc | apply pw_below_drewN | apply below_drew1) | exact HB.out)) hb); clear HB; have HB := n0_; clear n0_; (try clear hb); (try clear hb2); (try clear hk); (try clear hi)))
   repeat (go_quiet (first | (go_at_call 9; (with_reducible refine (oriellaw02_few.calls k _ _ l1 t260 _ ?side1 ?side2 A5.out).mono ?_); (case side1 => repeat (first | exact (Kd.C_below HR1.out HB.out) | (with_reducible refine Kd.C_alloc ?_ _) | (with_reducible refine Kd.C_drewN ?_ _) | (with_reducible refine Kd.C_drew ?_))); (case side2 => exact HC1.out); rintro e w6 ⟨rfl, hb⟩; have n0_ := Aside0.mk (below_step (by repeat (first | (with_reducible first | exact HB.out | apply below_alloc | apply pw_below_drewN | apply below_drew1) | exact HB.out)) hb); clear HB; have HB := n0_; clear n0_; (try clear hb); (try clear hb2); (try clear hk); (try clear hi))); try go_wp2_with (first | (go_at_call 9; (with_reducible refine (oriellaw02_few.calls k _ _ l1 t260 _ ?side1 ?side2 A5.out).mono ?_); (case side1 => repeat (first | exact (Kd.C_below HR1.out HB.out) | (with_reducible refine Kd.C_alloc ?_ _) | (with_reducible refine Kd.C_drewN ?_ _) | (with_reducible refine Kd.C_drew ?_))); (case side2 => exact HC1.out); rintro e w6 ⟨rfl, hb⟩; have n0_ := Aside0.mk (below_step (by repeat (first | (with_reducible first | exact HB.out | apply below_alloc | apply pw_below_drewN | apply below_drew1) | exact HB.out)) hb); clear HB; have HB := n0_; clear n0_; (try clear hb); (try clear hb2); (try clear hk); (try clear hi))))
   go_meet
   case rel => exact ⟨_, (!t260), (by first | rfl | (simp; done) | (simp [*]; done)), H', ⟨by first | omega | exact Nat.le_refl _⟩, ⟨by repeat (first | (with_reducible first | exact HB.out | apply below_alloc | apply pw_below_drewN | apply below_drew1) | exact HB.out)⟩⟩
 case rest =>
  clear HC3
  (try clear c1);(try clear p2);(try clear c4);(try clear c4b0);(try clear c4b1)
  obtain ⟨kq, x19_2, rfl, HA, HJ2, HB⟩ := hcut
  cases kq with
  | zero => exact absurd HA.out (by simp [oriellaw02_EditSorted.j0])
  | succ kj2 =>
   have H := HA.out
   clear HA
   simp only [oriellaw02_EditSorted.j0] at H
   by_cases c7 : x19_2 = true
   ·subst c7
    have H1 : ((oriellaw02_alive.f kj2).bind fun t261 => (some t261)) = some r := by rw [if_pos rfl] at H; exact H
    clear H
    have H := H1
    clear H1
    replace H := Option.bind_eq_some_iff.mp H
    obtain ⟨t261, A80, H⟩ := H
    replace H : (some t261) = some r := H
    have A8 := Aside0.mk A80
    clear A80
    obtain rfl := Option.some.inj H
    go_wp2_with (first | (go_at_call 10; (with_reducible refine (oriellaw02_alive.calls kj2  t261 _ A8.out).mono ?_); rintro e w9 ⟨rfl, hb⟩; have n0_ := Aside0.mk (below_step (by repeat (first | (with_reducible first | exact HB.out | apply below_alloc | apply pw_below_drewN | apply below_drew1) | exact HB.out)) hb); clear HB; have HB := n0_; clear n0_; (try clear hb); (try clear hb2); (try clear hk); (try clear hi)))
    repeat (go_quiet (first | (go_at_call 10; (with_reducible refine (oriellaw02_alive.calls kj2  t261 _ A8.out).mono ?_); rintro e w9 ⟨rfl, hb⟩; have n0_ := Aside0.mk (below_step (by repeat (first | (with_reducible first | exact HB.out | apply below_alloc | apply pw_below_drewN | apply below_drew1) | exact HB.out)) hb); clear HB; have HB := n0_; clear n0_; (try clear hb); (try clear hb2); (try clear hk); (try clear hi))); try go_wp2_with (first | (go_at_call 10; (with_reducible refine (oriellaw02_alive.calls kj2  t261 _ A8.out).mono ?_); rintro e w9 ⟨rfl, hb⟩; have n0_ := Aside0.mk (below_step (by repeat (first | (with_reducible first | exact HB.out | apply below_alloc | apply pw_below_drewN | apply below_drew1) | exact HB.out)) hb); clear HB; have HB := n0_; clear n0_; (try clear hb); (try clear hb2); (try clear hk); (try clear hi))))
    go_ret
    exact ⟨by first | rfl | (simp [errW_none, errW_some] <;> rfl) | (simp [*, errW_none, errW_some] <;> rfl), by repeat (first | (with_reducible first | exact HB.out | apply below_alloc | apply pw_below_drewN | apply below_drew1) | exact HB.out)⟩
   ·replace c7 := Bool.eq_false_iff.mpr c7
    subst c7
    have H1 : ((edit_Sorted.f kj2 l1).bind fun t262 => (if (t262.length : Int) = (l1.length : Int) then ((edit_Sorted.f kj2 t262).bind fun t265 => ((orielref02_Same.f kj2 t265 t262).bind fun t268 => (oriellaw02_EditSorted.j1 kj2 a0 l1 t262 (!t268)))) else (none))) = some r := by rw [if_neg (show ¬ (false = true) by decide)] at H; exact H
    clear H
    have H := H1
    clear H1
    replace H := Option.bind_eq_some_iff.mp H
    obtain ⟨t262, A100, H⟩ := H
    replace H : (if (t262.length : Int) = (l1.length : Int) then ((edit_Sorted.f kj2 t262).bind fun t265 => ((orielref02_Same.f kj2 t265 t262).bind fun t268 => (oriellaw02_EditSorted.j1 kj2 a0 l1 t262 (!t268)))) else (none)) = some r := H
    have A10 := Aside0.mk A100
    clear A100
    have HC11 := Aside0.mk H
    clear H
    go_upto_region 4 with (first | (go_at_call 25; (with_reducible refine (edit_Sorted.calls kj2 _ _ l1 t262 _ ?side1 ?side2 A10.out).mono ?_); (case side1 => repeat (first | exact (Kd.C_below HR1.out HB.out) | (with_reducible refine Kd.C_alloc ?_ _) | (with_reducible refine Kd.C_drewN ?_ _) | (with_reducible refine Kd.C_drew ?_))); (case side2 => exact HC1.out); rintro e w12 ⟨v263, rfl, ho0, hb⟩; have n0_ := Aside0.mk (Kd.R_lower ho0 (below_size (by repeat (first | (with_reducible first | exact HB.out | apply below_alloc | apply pw_below_drewN | apply below_drew1) | exact HB.out)))); have n1_ := Aside0.mk (below_step (by repeat (first | (with_reducible first | exact HB.out | apply below_alloc | apply pw_below_drewN | apply below_drew1) | exact HB.out)) hb); clear HB; have HO264 := n0_; have HB := n1_; clear n0_ n1_; (try clear hb); (try clear hb2); (try clear hk); (try clear hi); (try clear ho0)))
    repeat (go_quiet (first | (go_at_call 25; (with_reducible refine (edit_Sorted.calls kj2 _ _ l1 t262 _ ?side1 ?side2 A10.out).mono ?_); (case side1 => repeat (first | exact (Kd.C_below HR1.out HB.out) | (with_reducible refine Kd.C_alloc ?_ _) | (with_reducible refine Kd.C_drewN ?_ _) | (with_reducible refine Kd.C_drew ?_))); (case side2 => exact HC1.out); rintro e w12 ⟨v263, rfl, ho0, hb⟩; have n0_ := Aside0.mk (Kd.R_lower ho0 (below_size (by repeat (first | (with_reducible first | exact HB.out | apply below_alloc | apply pw_below_drewN | apply below_drew1) | exact HB.out)))); have n1_ := Aside0.mk (below_step (by repeat (first | (with_reducible first | exact HB.out | apply below_alloc | apply pw_below_drewN | apply below_drew1) | exact HB.out)) hb); clear HB; have HO264 := n0_; have HB := n1_; clear n0_ n1_; (try clear hb); (try clear hb2); (try clear hk); (try clear hi); (try clear ho0))); go_upto_region 4 with (first | (go_at_call 25; (with_reducible refine (edit_Sorted.calls kj2 _ _ l1 t262 _ ?side1 ?side2 A10.out).mono ?_); (case side1 => repeat (first | exact (Kd.C_below HR1.out HB.out) | (with_reducible refine Kd.C_alloc ?_ _) | (with_reducible refine Kd.C_drewN ?_ _) | (with_reducible refine Kd.C_drew ?_))); (case side2 => exact HC1.out); rintro e w12 ⟨v263, rfl, ho0, hb⟩; have n0_ := Aside0.mk (Kd.R_lower ho0 (below_size (by repeat (first | (with_reducible first | exact HB.out | apply below_alloc | apply pw_below_drewN | apply below_drew1) | exact HB.out)))); have n1_ := Aside0.mk (below_step (by repeat (first | (with_reducible first | exact HB.out | apply below_alloc | apply pw_below_drewN | apply below_drew1) | exact HB.out)) hb); clear HB; have HO264 := n0_; have HB := n1_; clear n0_ n1_; (try clear hb); (try clear hb2); (try clear hk); (try clear hi); (try clear ho0))))
    (try simp only [Act.put, List.setIfInBounds_toArray, List.set_cons_zero, List.set_cons_succ])
    go_cut [34] (fun v34 wc => ∃ (kq : Nat) (x34_10 : Bool), v34 = .bool x34_10 ∧ Aside0 (oriellaw02_EditSorted.j1 kq a0 l1 t262 x34_10 = some r) ∧ Aside0 (kq ≤ kj2) ∧ Aside0 (Kd.R k47 47 wc w.heap.size (fun _ => True) v263 t262) ∧ Aside0 (Below w.heap.size w wc))
    case first =>
     have H := HC11.out
     clear HC11
     by_cases c13 : (t262.length : Int) = (l1.length : Int)
     ·rw [if_pos c13] at H
      have c13b0 : ((t262.length : Int) == (l1.length : Int)) = true := beq_iff_eq.mpr c13
      have c13b1 : ((t262.length : Int) != (l1.length : Int)) = false := bne_eq_false_iff_eq.mpr c13
      have c13b2 : (t262.length == l1.length) = true := by first | simpa using c13 | (simp at c13 ⊢; omega)
      clear c13
      (first | rw [c13b0] | (simp only [i64_w, i32_w]; rw [c13b0]) | skip)
      replace H := Option.bind_eq_some_iff.mp H
      obtain ⟨t265, A140, H⟩ := H
      replace H : ((orielref02_Same.f kj2 t265 t262).bind fun t268 => (oriellaw02_EditSorted.j1 kj2 a0 l1 t262 (!t268))) = some r := H
      have A14 := Aside0.mk A140
      clear A140
      replace H := Option.bind_eq_some_iff.mp H
      obtain ⟨t268, A150, H⟩ := H
      replace H : (oriellaw02_EditSorted.j1 kj2 a0 l1 t262 (!t268)) = some r := H
      have A15 := Aside0.mk A150
      clear A150
      have H' := Aside0.mk H
      clear H
      obtain ⟨Ao16, co16, eo16⟩ := Kd.R_slice HO264.out
      subst eo16
      go_wp2_with (first | (go_at_call 25; (with_reducible refine (edit_Sorted.calls kj2 _ _ t262 t265 _ ?side1 ?side2 A14.out).mono ?_); (case side1 => repeat (first | exact (Kd.R_reads' HO264.out).2.2 | (with_reducible refine Kd.C_alloc ?_ _) | (with_reducible refine Kd.C_drewN ?_ _) | (with_reducible refine Kd.C_drew ?_))); (case side2 => exact (Kd.R_reads' HO264.out).2.1); rintro e w17 ⟨v266, rfl, ho0, hb⟩; have n0_ := Aside0.mk (Kd.R_elder' (by (with_reducible repeat (first | apply Kd.R_alloc | apply Kd.R_drewN | apply Kd.R_drew)); exact HO264.out) (Kd.R_base ho0) hb); have n1_ := Aside0.mk (Kd.R_lower (Kd.R_new' ho0 (Kd.R_lt (by (with_reducible repeat (first | apply Kd.R_alloc | apply Kd.R_drewN | apply Kd.R_drew)); exact HO264.out))) (below_size (by repeat (first | (with_reducible first | exact HB.out | apply below_alloc | apply pw_below_drewN | apply below_drew1) | exact HB.out)))); have n2_ := Aside0.mk (below_step (by repeat (first | (with_reducible first | exact HB.out | apply below_alloc | apply pw_below_drewN | apply below_drew1) | exact HB.out)) hb); clear HO264; clear HB; have HO264 := n0_; have HO267 := n1_; have HB := n2_; clear n0_ n1_ n2_; (try clear hb); (try clear hb2); (try clear hk); (try clear hi); (try clear ho0); obtain ⟨Ao18, co18, eo18⟩ := Kd.R_slice HO267.out; subst eo18) | (go_at_call 24; (with_reducible refine (orielref02_Same.calls kj2 _ _ t265 _ _ t262 t268 _ ?side1 ?side2 ?side3 ?side4 A15.out).mono ?_); (case side1 => repeat (first | exact (Kd.R_reads' HO267.out).2.2 | (with_reducible refine Kd.C_alloc ?_ _) | (with_reducible refine Kd.C_drewN ?_ _) | (with_reducible refine Kd.C_drew ?_))); (case side2 => exact (Kd.R_reads' HO267.out).2.1); (case side3 => repeat (first | exact (Kd.R_reads' HO264.out).2.2 | (with_reducible refine Kd.C_alloc ?_ _) | (with_reducible refine Kd.C_drewN ?_ _) | (with_reducible refine Kd.C_drew ?_))); (case side4 => exact (Kd.R_reads' HO264.out).2.1); rintro e w' ⟨rfl, ⟨nd, rfl⟩⟩; (try first | exact ⟨rfl, _, World.drewN_drewN _ _ _⟩ | exact ⟨rfl, _, Eq.trans (World.drewN_drewN _ _ _) (congrArg (World.drewN _) (Nat.add_assoc _ _ _))⟩)))
      repeat (go_quiet (first | (go_at_call 25; (with_reducible refine (edit_Sorted.calls kj2 _ _ t262 t265 _ ?side1 ?side2 A14.out).mono ?_); (case side1 => repeat (first | exact (Kd.R_reads' HO264.out).2.2 | (with_reducible refine Kd.C_alloc ?_ _) | (with_reducible refine Kd.C_drewN ?_ _) | (with_reducible refine Kd.C_drew ?_))); (case side2 => exact (Kd.R_reads' HO264.out).2.1); rintro e w17 ⟨v266, rfl, ho0, hb⟩; have n0_ := Aside0.mk (Kd.R_elder' (by (with_reducible repeat (first | apply Kd.R_alloc | apply Kd.R_drewN | apply Kd.R_drew)); exact HO264.out) (Kd.R_base ho0) hb); have n1_ := Aside0.mk (Kd.R_lower (Kd.R_new' ho0 (Kd.R_lt (by (with_reducible repeat (first | apply Kd.R_alloc | apply Kd.R_drewN | apply Kd.R_drew)); exact HO264.out))) (below_size (by repeat (first | (with_reducible first | exact HB.out | apply below_alloc | apply pw_below_drewN | apply below_drew1) | exact HB.out)))); have n2_ := Aside0.mk (below_step (by repeat (first | (with_reducible first | exact HB.out | apply below_alloc | apply pw_below_drewN | apply below_drew1) | exact HB.out)) hb); clear HO264; clear HB; have HO264 := n0_; have HO267 := n1_; have HB := n2_; clear n0_ n1_ n2_; (try clear hb); (try clear hb2); (try clear hk); (try clear hi); (try clear ho0); obtain ⟨Ao18, co18, eo18⟩ := Kd.R_slice HO267.out; subst eo18) | (go_at_call 24; (with_reducible refine (orielref02_Same.calls kj2 _ _ t265 _ _ t262 t268 _ ?side1 ?side2 ?side3 ?side4 A15.out).mono ?_); (case side1 => repeat (first | exact (Kd.R_reads' HO267.out).2.2 | (with_reducible refine Kd.C_alloc ?_ _) | (with_reducible refine Kd.C_drewN ?_ _) | (with_reducible refine Kd.C_drew ?_))); (case side2 => exact (Kd.R_reads' HO267.out).2.1); (case side3 => repeat (first | exact (Kd.R_reads' HO264.out).2.2 | (with_reducible refine Kd.C_alloc ?_ _) | (with_reducible refine Kd.C_drewN ?_ _) | (with_reducible refine Kd.C_drew ?_))); (case side4 => exact (Kd.R_reads' HO264.out).2.1); rintro e w' ⟨rfl, ⟨nd, rfl⟩⟩; (try first | exact ⟨rfl, _, World.drewN_drewN _ _ _⟩ | exact ⟨rfl, _, Eq.trans (World.drewN_drewN _ _ _) (congrArg (World.drewN _) (Nat.add_assoc _ _ _))⟩))); try go_wp2_with (first | (go_at_call 25; (with_reducible refine (edit_Sorted.calls kj2 _ _ t262 t265 _ ?side1 ?side2 A14.out).mono ?_); (case side1 => repeat (first | exact (Kd.R_reads' HO264.out).2.2 | (with_reducible refine Kd.C_alloc ?_ _) | (with_reducible refine Kd.C_drewN ?_ _) | (with_reducible refine Kd.C_drew ?_))); (case side2 => exact (Kd.R_reads' HO264.out).2.1); rintro e w17 ⟨v266, rfl, ho0, hb⟩; have n0_ := Aside0.mk (Kd.R_elder' (by (with_reducible repeat (first | apply Kd.R_alloc | apply Kd.R_drewN | apply Kd.R_drew)); exact HO264.out) (Kd.R_base ho0) hb); have n1_ := Aside0.mk (Kd.R_lower (Kd.R_new' ho0 (Kd.R_lt (by (with_reducible repeat (first | apply Kd.R_alloc | apply Kd.R_drewN | apply Kd.R_drew)); exact HO264.out))) (below_size (by repeat (first | (with_reducible first | exact HB.out | apply below_alloc | apply pw_below_drewN | apply below_drew1) | exact HB.out)))); have n2_ := Aside0.mk (below_step (by repeat (first | (with_reducible first | exact HB.out | apply below_alloc | apply pw_below_drewN | apply below_drew1) | exact HB.out)) hb); clear HO264; clear HB; have HO264 := n0_; have HO267 := n1_; have HB := n2_; clear n0_ n1_ n2_; (try clear hb); (try clear hb2); (try clear hk); (try clear hi); (try clear ho0); obtain ⟨Ao18, co18, eo18⟩ := Kd.R_slice HO267.out; subst eo18) | (go_at_call 24; (with_reducible refine (orielref02_Same.calls kj2 _ _ t265 _ _ t262 t268 _ ?side1 ?side2 ?side3 ?side4 A15.out).mono ?_); (case side1 => repeat (first | exact (Kd.R_reads' HO267.out).2.2 | (with_reducible refine Kd.C_alloc ?_ _) | (with_reducible refine Kd.C_drewN ?_ _) | (with_reducible refine Kd.C_drew ?_))); (case side2 => exact (Kd.R_reads' HO267.out).2.1); (case side3 => repeat (first | exact (Kd.R_reads' HO264.out).2.2 | (with_reducible refine Kd.C_alloc ?_ _) | (with_reducible refine Kd.C_drewN ?_ _) | (with_reducible refine Kd.C_drew ?_))); (case side4 => exact (Kd.R_reads' HO264.out).2.1); rintro e w' ⟨rfl, ⟨nd, rfl⟩⟩; (try first | exact ⟨rfl, _, World.drewN_drewN _ _ _⟩ | exact ⟨rfl, _, Eq.trans (World.drewN_drewN _ _ _) (congrArg (World.drewN _) (Nat.add_assoc _ _ _))⟩))))
      go_meet
      case rel => exact ⟨_, (!t268), (by first | rfl | (simp; done) | (simp [*]; done)), H', ⟨by have := HJ2.out; first | omega | exact Nat.le_refl _⟩, ⟨by (with_reducible repeat (first | apply Kd.R_alloc | apply Kd.R_drewN | apply Kd.R_drew)); exact Kd.R_mono HO264.out (fun _ hk => trivial)⟩, ⟨by repeat (first | (with_reducible first | exact HB.out | apply below_alloc | apply pw_below_drewN | apply below_drew1) | exact HB.out)⟩⟩
     ·rw [if_neg c13] at H
      exact absurd H (by simp)
    case rest =>
     clear HC11
     (try clear c1);(try clear p2);(try clear c4);(try clear c4b0);(try clear c4b1);(try clear c7);(try clear c8);(try clear c13);(try clear c13b0);(try clear c13b1);(try clear c13b2);(try clear p2)
     obtain ⟨kq, x34_10, rfl, HA, HJ10, HO_5, HB⟩ := hcut
     cases kq with
     | zero => exact absurd HA.out (by simp [oriellaw02_EditSorted.j1])
     | succ kj10 =>
      have H := HA.out
      clear HA
      simp only [oriellaw02_EditSorted.j1] at H
      by_cases c19 : x34_10 = true
      ·subst c19
       have H1 : (none) = some r := by rw [if_pos rfl] at H; exact H
       clear H
       have H := H1
       clear H1
       exact absurd H (by simp)
      ·replace c19 := Bool.eq_false_iff.mpr c19
       subst c19
       have H1 : (oriellaw02_EditSorted.l0 kj10 a0 l1 t262 l1 (l1.length : Int) 0) = some r := by rw [if_neg (show ¬ (false = true) by decide)] at H; exact H
       clear H
       have H := H1
       clear H1
       have H' := Aside0.mk H
       clear H
       go_wp2
       repeat (go_quiet (fail); try go_wp2)
       go_loopg [37] kj10 (fun kq v37 w' => ∃ (x37_3 : Int), v37 = .int .i64 x37_3 ∧ Aside0 (oriellaw02_EditSorted.l0 kq a0 l1 t262 l1 (l1.length : Int) x37_3 = some r) ∧ Aside0 (kq ≤ kj10) ∧ Aside0 (Kd.R k47 47 w' w.heap.size (fun _ => True) v263 t262) ∧ Aside0 (Below w.heap.size w w'))
       case atStart => exact ⟨(0), (by first | rfl | (simp; done) | (simp [*]; done)), H', ⟨Nat.le_refl _⟩, ⟨by (with_reducible repeat (first | apply Kd.R_alloc | apply Kd.R_drewN | apply Kd.R_drew)); exact HO_5.out⟩, ⟨by repeat (first | (with_reducible first | exact HB.out | apply below_alloc | apply pw_below_drewN | apply below_drew1) | exact HB.out)⟩⟩
       case round =>
        clear H'
        (try clear c1);(try clear p2);(try clear c4);(try clear c4b0);(try clear c4b1);(try clear c7);(try clear c8);(try clear c13);(try clear c13b0);(try clear c13b1);(try clear c13b2);(try clear c19);(try clear p2)
        obtain ⟨x37_3, rfl, HA, HK3, HO_5, HB⟩ := hrel
        cases gk with
        | zero => exact absurd HA.out (by simp [oriellaw02_EditSorted.l0])
        | succ k3 =>
         have H := HA.out
         clear HA
         simp only [oriellaw02_EditSorted.l0] at H
         by_cases c20 : x37_3 < (l1.length : Int)
         ·rw [if_pos c20] at H
          have c20b0 : decide (x37_3 < (l1.length : Int)) = true := decide_eq_true c20
          clear c20
          by_cases c21 : 0 ≤ x37_3
          ·rw [if_pos c21] at H
           have c21b0 : decide (0 ≤ x37_3) = true := decide_eq_true c21
           clear c21
           by_cases c22 : x37_3 < (l1.length : Int)
           ·rw [if_pos c22] at H
            have c22b0 : decide (x37_3 < (l1.length : Int)) = true := decide_eq_true c22
            clear c22
            have H' := Aside0.mk H
            clear H
            have p269 : 0 ≤ (x37_3 : Int) := of_decide_eq_true (by first | (with_reducible assumption) | assumption)
            have q269 : x37_3 < (l1.length : Int) := of_decide_eq_true (by first | (with_reducible assumption) | assumption)
            obtain ⟨ad269, e269, hx269_0, hx269_1, hx269_2⟩ := at_T47 HR1.out x37_3 p269 q269
            cases e269
            replace hx269_0 := (HB.out.cell (World.block_lt_of_cell? w _ hx269_0)).trans hx269_0
            replace hx269_1 := (HB.out.cell (World.block_lt_of_cell? w _ hx269_1)).trans hx269_1
            replace hx269_2 := (HB.out.cell (World.block_lt_of_cell? w _ hx269_2)).trans hx269_2
            replace p269 := eq_true p269
            replace q269 := eq_true q269
            go_wp2_with (first | ((with_reducible refine gate_dst (N := 7) rfl ?_); refine box_event ?hg (N := 7) ?hd (cs := #[.int .i64 0, .int .i64 0, .string (⟨#[]⟩ : ByteArray)]) (t := 47) ?hr ?_; (case hd => rfl); (case hg => rfl); (case hr => first | (go_simp; done) | (go_simp; rfl)); intro gb270 hg w23 hbox hb; have n0_ := Aside0.mk (Kd.R_below (Kd.R_elderB (by (with_reducible repeat (first | apply Kd.R_alloc | apply Kd.R_drewN | apply Kd.R_drew)); exact HO_5.out) gb270 (Nat.le_of_eq hg.symm)) hb); have n1_ := Aside0.mk (below_step (by repeat (first | (with_reducible first | exact HB.out | apply below_alloc | apply pw_below_drewN | apply below_drew1) | exact HB.out)) hb); have n2_ := Aside0.mk (hbox); have n3_ := Aside0.mk ((by rw [hg]; exact (below_size (by repeat (first | (with_reducible first | exact HB.out | apply below_alloc | apply pw_below_drewN | apply below_drew1) | exact HB.out))) : w.heap.size ≤ gb270)); have n4_ := Aside0.mk ((by rw [hg]; exact (below_size (by repeat (first | (with_reducible first | exact HB.out | apply below_alloc | apply pw_below_drewN | apply below_drew1) | exact HB.out))) : w.heap.size ≤ gb270)); clear HO_5; clear HB; have HO_5 := n0_; have HB := n1_; have BK270 := n2_; have GW270 := n3_; have GE270 := n4_; clear n0_ n1_ n2_ n3_ n4_; clear hb hbox hg; have hcz24_0 : w23.cell? ⟨gb270, 0, none⟩ = some (.int .i64 0) := (blk_cell BK270.out 0).trans rfl; have hcz24_1 : w23.cell? ⟨gb270, 1, none⟩ = some (.int .i64 0) := (blk_cell BK270.out 1).trans rfl; have hcz24_2 : w23.cell? ⟨gb270, 2, none⟩ = some (.string (⟨#[]⟩ : ByteArray)) := (blk_cell BK270.out 2).trans rfl; have hfz24_0 := blk_frozen BK270.out 0; have hfz24_1 := blk_frozen BK270.out 1; have hfz24_2 := blk_frozen BK270.out 2))
            repeat (go_quiet (first | ((with_reducible refine gate_dst (N := 7) rfl ?_); refine box_event ?hg (N := 7) ?hd (cs := #[.int .i64 0, .int .i64 0, .string (⟨#[]⟩ : ByteArray)]) (t := 47) ?hr ?_; (case hd => rfl); (case hg => rfl); (case hr => first | (go_simp; done) | (go_simp; rfl)); intro gb270 hg w23 hbox hb; have n0_ := Aside0.mk (Kd.R_below (Kd.R_elderB (by (with_reducible repeat (first | apply Kd.R_alloc | apply Kd.R_drewN | apply Kd.R_drew)); exact HO_5.out) gb270 (Nat.le_of_eq hg.symm)) hb); have n1_ := Aside0.mk (below_step (by repeat (first | (with_reducible first | exact HB.out | apply below_alloc | apply pw_below_drewN | apply below_drew1) | exact HB.out)) hb); have n2_ := Aside0.mk (hbox); have n3_ := Aside0.mk ((by rw [hg]; exact (below_size (by repeat (first | (with_reducible first | exact HB.out | apply below_alloc | apply pw_below_drewN | apply below_drew1) | exact HB.out))) : w.heap.size ≤ gb270)); have n4_ := Aside0.mk ((by rw [hg]; exact (below_size (by repeat (first | (with_reducible first | exact HB.out | apply below_alloc | apply pw_below_drewN | apply below_drew1) | exact HB.out))) : w.heap.size ≤ gb270)); clear HO_5; clear HB; have HO_5 := n0_; have HB := n1_; have BK270 := n2_; have GW270 := n3_; have GE270 := n4_; clear n0_ n1_ n2_ n3_ n4_; clear hb hbox hg; have hcz24_0 : w23.cell? ⟨gb270, 0, none⟩ = some (.int .i64 0) := (blk_cell BK270.out 0).trans rfl; have hcz24_1 : w23.cell? ⟨gb270, 1, none⟩ = some (.int .i64 0) := (blk_cell BK270.out 1).trans rfl; have hcz24_2 : w23.cell? ⟨gb270, 2, none⟩ = some (.string (⟨#[]⟩ : ByteArray)) := (blk_cell BK270.out 2).trans rfl; have hfz24_0 := blk_frozen BK270.out 0; have hfz24_1 := blk_frozen BK270.out 1; have hfz24_2 := blk_frozen BK270.out 2)); try go_wp2_with (first | ((with_reducible refine gate_dst (N := 7) rfl ?_); refine box_event ?hg (N := 7) ?hd (cs := #[.int .i64 0, .int .i64 0, .string (⟨#[]⟩ : ByteArray)]) (t := 47) ?hr ?_; (case hd => rfl); (case hg => rfl); (case hr => first | (go_simp; done) | (go_simp; rfl)); intro gb270 hg w23 hbox hb; have n0_ := Aside0.mk (Kd.R_below (Kd.R_elderB (by (with_reducible repeat (first | apply Kd.R_alloc | apply Kd.R_drewN | apply Kd.R_drew)); exact HO_5.out) gb270 (Nat.le_of_eq hg.symm)) hb); have n1_ := Aside0.mk (below_step (by repeat (first | (with_reducible first | exact HB.out | apply below_alloc | apply pw_below_drewN | apply below_drew1) | exact HB.out)) hb); have n2_ := Aside0.mk (hbox); have n3_ := Aside0.mk ((by rw [hg]; exact (below_size (by repeat (first | (with_reducible first | exact HB.out | apply below_alloc | apply pw_below_drewN | apply below_drew1) | exact HB.out))) : w.heap.size ≤ gb270)); have n4_ := Aside0.mk ((by rw [hg]; exact (below_size (by repeat (first | (with_reducible first | exact HB.out | apply below_alloc | apply pw_below_drewN | apply below_drew1) | exact HB.out))) : w.heap.size ≤ gb270)); clear HO_5; clear HB; have HO_5 := n0_; have HB := n1_; have BK270 := n2_; have GW270 := n3_; have GE270 := n4_; clear n0_ n1_ n2_ n3_ n4_; clear hb hbox hg; have hcz24_0 : w23.cell? ⟨gb270, 0, none⟩ = some (.int .i64 0) := (blk_cell BK270.out 0).trans rfl; have hcz24_1 : w23.cell? ⟨gb270, 1, none⟩ = some (.int .i64 0) := (blk_cell BK270.out 1).trans rfl; have hcz24_2 : w23.cell? ⟨gb270, 2, none⟩ = some (.string (⟨#[]⟩ : ByteArray)) := (blk_cell BK270.out 2).trans rfl; have hfz24_0 := blk_frozen BK270.out 0; have hfz24_1 := blk_frozen BK270.out 1; have hfz24_2 := blk_frozen BK270.out 2)))
            go_loopg [8, 9, 43] k3 (fun kq v8 v9 v43 w' => ∃ (x8_4 : Int) (x9_4 : Int) (x43_4 : Int), v8 = .int .i64 x8_4 ∧ v9 = .int .i64 x9_4 ∧ v43 = .int .i64 x43_4 ∧ Aside0 (oriellaw02_EditSorted.l1 kq a0 l1 t262 x8_4 x9_4 l1 (l1.length : Int) x37_3 (l1.length : Int) x43_4 ((rd_T47 l1 x37_3).f0) ((rd_T47 l1 x37_3).f1) ((rd_T47 l1 x37_3).f2) = some r) ∧ Aside0 (kq ≤ k3) ∧ Aside0 (Kd.R k47 47 w' w.heap.size (fun k_ => k_ ≠ gb270) v263 t262) ∧ Aside0 (w'.heap[gb270]? = some (.cells #[.int .i64 ((rd_T47 l1 x37_3).f0), .int .i64 ((rd_T47 l1 x37_3).f1), .string ((rd_T47 l1 x37_3).f2)] 47 (0, 0))) ∧ Aside0 (Below w.heap.size w w'))
            case atStart => exact ⟨(0), (0), (0), (by first | rfl | (simp; done) | (simp [*]; done)), (by first | rfl | (simp; done) | (simp [*]; done)), (by first | rfl | (simp; done) | (simp [*]; done)), H', ⟨Nat.le_refl _⟩, ⟨by (with_reducible repeat (first | apply Kd.R_alloc | apply Kd.R_drewN | apply Kd.R_drew)); exact Kd.R_mono (Kd.R_far (p := ⟨gb270, 2, none⟩) (Kd.R_far (p := ⟨gb270, 1, none⟩) (Kd.R_far (p := ⟨gb270, 0, none⟩) (Kd.R_mono HO_5.out (fun k_ hk => (⟨hk, hk.2⟩ : _ ∧ k_ ≠ gb270))) (fun _ hk => hk.2) (.int .i64 ((rd_T47 l1 x37_3).f0))) (fun _ hk => hk.2) (.int .i64 ((rd_T47 l1 x37_3).f1))) (fun _ hk => hk.2) (.string ((rd_T47 l1 x37_3).f2))) (fun _ hk => hk.1.2)⟩, ⟨by (with_reducible repeat (first | refine blk_drewN ?_ _ | refine blk_drew ?_ | refine blk_alloc ?_ _)); refine blk_put (cs := #[.int .i64 ((rd_T47 l1 x37_3).f0), .int .i64 ((rd_T47 l1 x37_3).f1), .string (⟨#[]⟩ : ByteArray)]) ?_ 2 _ rfl; (with_reducible repeat (first | refine blk_drewN ?_ _ | refine blk_drew ?_ | refine blk_alloc ?_ _)); refine blk_put (cs := #[.int .i64 ((rd_T47 l1 x37_3).f0), .int .i64 0, .string (⟨#[]⟩ : ByteArray)]) ?_ 1 _ rfl; (with_reducible repeat (first | refine blk_drewN ?_ _ | refine blk_drew ?_ | refine blk_alloc ?_ _)); refine blk_put (cs := #[.int .i64 0, .int .i64 0, .string (⟨#[]⟩ : ByteArray)]) ?_ 0 _ rfl; (with_reducible repeat (first | refine blk_drewN ?_ _ | refine blk_drew ?_ | refine blk_alloc ?_ _)); exact BK270.out⟩, ⟨by repeat (first | (with_reducible first | exact HB.out | apply below_alloc | apply pw_below_drewN | apply below_drew1 | refine below_set ?_ GE270.out) | exact HB.out)⟩⟩
            case round =>
             clear H'
             (try clear c1);(try clear c2);(try clear p2);(try clear q2);(try clear hx2);(try clear c4);(try clear c4b0);(try clear c4b1);(try clear c7);(try clear c8);(try clear c13);(try clear c13b0);(try clear c13b1);(try clear c13b2);(try clear c19);(try clear c20);(try clear c20b0);(try clear c21);(try clear c21b0);(try clear c22);(try clear c22b0);(try clear hcz24_0);(try clear hcz24_1);(try clear hcz24_2);(try clear hfz24_0);(try clear hfz24_1);(try clear hfz24_2);(try clear hx269_0);(try clear hx269_1);(try clear hx269_2);(try clear p2);(try clear p269);(try clear q269)
             obtain ⟨x8_4, x9_4, x43_4, rfl, rfl, rfl, HA, HK4, HO_5, BK270, HB⟩ := hrel
             cases gk with
             | zero => exact absurd HA.out (by simp [oriellaw02_EditSorted.l1])
             | succ k4 =>
              have H := HA.out
              clear HA
              simp only [oriellaw02_EditSorted.l1] at H
              by_cases c25 : x43_4 < (l1.length : Int)
              ·rw [if_pos c25] at H
               have c25b0 : decide (x43_4 < (l1.length : Int)) = true := decide_eq_true c25
               clear c25
               by_cases c26 : 0 ≤ x43_4
               ·rw [if_pos c26] at H
                have c26b0 : decide (0 ≤ x43_4) = true := decide_eq_true c26
                clear c26
                by_cases c27 : x43_4 < (l1.length : Int)
                ·rw [if_pos c27] at H
                 have c27b0 : decide (x43_4 < (l1.length : Int)) = true := decide_eq_true c27
                 clear c27
                 by_cases c28 : (((rd_T47 l1 x43_4).f0) == ((rd_T47 l1 x37_3).f0) && (((rd_T47 l1 x43_4).f1) == ((rd_T47 l1 x37_3).f1) && ((((rd_T47 l1 x43_4).f2).toList) == ((rd_T47 l1 x37_3).f2).toList))) = true
                 ·rw [if_pos c28] at H
                  have c28b0 : (((rd_T47 l1 x43_4).f0) == ((rd_T47 l1 x37_3).f0) && (((rd_T47 l1 x43_4).f1) == ((rd_T47 l1 x37_3).f1) && ((((rd_T47 l1 x43_4).f2).toList) == ((rd_T47 l1 x37_3).f2).toList))) = true := c28
                  (try (have c28b1 : decide (((rd_T47 l1 x43_4).f0) = ((rd_T47 l1 x37_3).f0) && (((rd_T47 l1 x43_4).f1) == ((rd_T47 l1 x37_3).f1) && ((((rd_T47 l1 x43_4).f2).toList) == ((rd_T47 l1 x37_3).f2).toList))) = true := by simpa using c28))
                  (try (have c28b2 : (((rd_T47 l1 x43_4).f0) == ((rd_T47 l1 x37_3).f0) && (((rd_T47 l1 x43_4).f1) == ((rd_T47 l1 x37_3).f1) && ((((rd_T47 l1 x43_4).f2).toList) == ((rd_T47 l1 x37_3).f2).toList))) = true := by simpa using c28))
                  clear c28
                  by_cases c29 : x43_4 < (t262.length : Int)
                  ·rw [if_pos c29] at H
                   have c29b0 : decide (x43_4 < (t262.length : Int)) = true := decide_eq_true c29
                   clear c29
                   by_cases c30 : (((rd_T47 t262 x43_4).f0) == ((rd_T47 l1 x37_3).f0) && (((rd_T47 t262 x43_4).f1) == ((rd_T47 l1 x37_3).f1) && ((((rd_T47 t262 x43_4).f2).toList) == ((rd_T47 l1 x37_3).f2).toList))) = true
                   ·rw [if_pos c30] at H
                    have c30b0 : (((rd_T47 t262 x43_4).f0) == ((rd_T47 l1 x37_3).f0) && (((rd_T47 t262 x43_4).f1) == ((rd_T47 l1 x37_3).f1) && ((((rd_T47 t262 x43_4).f2).toList) == ((rd_T47 l1 x37_3).f2).toList))) = true := c30
                    (try (have c30b1 : decide (((rd_T47 t262 x43_4).f0) = ((rd_T47 l1 x37_3).f0) && (((rd_T47 t262 x43_4).f1) == ((rd_T47 l1 x37_3).f1) && ((((rd_T47 t262 x43_4).f2).toList) == ((rd_T47 l1 x37_3).f2).toList))) = true := by simpa using c30))
                    (try (have c30b2 : (((rd_T47 t262 x43_4).f0) == ((rd_T47 l1 x37_3).f0) && (((rd_T47 t262 x43_4).f1) == ((rd_T47 l1 x37_3).f1) && ((((rd_T47 t262 x43_4).f2).toList) == ((rd_T47 l1 x37_3).f2).toList))) = true := by simpa using c30))
                    clear c30
                    have H' := Aside0.mk H
                    clear H
                    have p271 : 0 ≤ (x43_4 : Int) := of_decide_eq_true (by first | (with_reducible assumption) | assumption)
                    have q271 : x43_4 < (l1.length : Int) := of_decide_eq_true (by first | (with_reducible assumption) | assumption)
                    obtain ⟨ad271, e271, hx271_0, hx271_1, hx271_2⟩ := at_T47 HR1.out x43_4 p271 q271
                    obtain rfl : ad269 = ad271 := (by injection e271)
                    replace hx271_0 := (HB.out.cell (World.block_lt_of_cell? w _ hx271_0)).trans hx271_0
                    replace hx271_1 := (HB.out.cell (World.block_lt_of_cell? w _ hx271_1)).trans hx271_1
                    replace hx271_2 := (HB.out.cell (World.block_lt_of_cell? w _ hx271_2)).trans hx271_2
                    replace p271 := eq_true p271
                    replace q271 := eq_true q271
                    have hcz31_0 : wr.cell? ⟨gb270, 0, none⟩ = some (.int .i64 ((rd_T47 l1 x37_3).f0)) := (blk_cell BK270.out 0).trans rfl
                    have hcz31_1 : wr.cell? ⟨gb270, 1, none⟩ = some (.int .i64 ((rd_T47 l1 x37_3).f1)) := (blk_cell BK270.out 1).trans rfl
                    have hcz31_2 : wr.cell? ⟨gb270, 2, none⟩ = some (.string ((rd_T47 l1 x37_3).f2)) := (blk_cell BK270.out 2).trans rfl
                    have hfz31_0 := blk_frozen BK270.out 0
                    have hfz31_1 := blk_frozen BK270.out 1
                    have hfz31_2 := blk_frozen BK270.out 2
                    obtain ⟨Ao32, co32, eo32⟩ := Kd.R_slice HO_5.out
                    subst eo32
                    have p272 : 0 ≤ (x43_4 : Int) := of_decide_eq_true (by first | (with_reducible assumption) | assumption)
                    have q272 : x43_4 < (t262.length : Int) := of_decide_eq_true (by first | (with_reducible assumption) | assumption)
                    obtain ⟨ad272, e272, hx272_0, hx272_1, hx272_2⟩ := at_T47 (Kd.R_reads' HO_5.out).2.2 x43_4 p272 q272
                    cases e272
                    replace p272 := eq_true p272
                    replace q272 := eq_true q272
                    go_wp2
                    repeat (go_quiet (fail); try go_wp2)
                    go_roundg k4
                    case measure => have := HJ2.out; have := HJ10.out; have := HK3.out; have := HK4.out; omega
                    case rel => exact ⟨(wrap64 (x8_4 + 1)), (wrap64 (x9_4 + 1)), (wrap64 (x43_4 + 1)), (by first | rfl | (simp; done) | (simp [*]; done)), (by first | rfl | (simp; done) | (simp [*]; done)), (by first | rfl | (simp; done) | (simp [*]; done)), H', ⟨by have := HJ2.out; have := HJ10.out; have := HK3.out; have := HK4.out; omega⟩, ⟨by (with_reducible repeat (first | apply Kd.R_alloc | apply Kd.R_drewN | apply Kd.R_drew)); exact HO_5.out⟩, ⟨by (with_reducible repeat (first | refine blk_drewN ?_ _ | refine blk_drew ?_ | refine blk_alloc ?_ _)); exact BK270.out⟩, ⟨by repeat (first | (with_reducible first | exact HB.out | apply below_alloc | apply pw_below_drewN | apply below_drew1 | refine below_set ?_ GE270.out) | exact HB.out)⟩⟩
                   ·rw [if_neg c30] at H
                    have c30b0 : (((rd_T47 t262 x43_4).f0) == ((rd_T47 l1 x37_3).f0) && (((rd_T47 t262 x43_4).f1) == ((rd_T47 l1 x37_3).f1) && ((((rd_T47 t262 x43_4).f2).toList) == ((rd_T47 l1 x37_3).f2).toList))) = false := by simpa using c30
                    (try (have c30b1 : decide (((rd_T47 t262 x43_4).f0) = ((rd_T47 l1 x37_3).f0) && (((rd_T47 t262 x43_4).f1) == ((rd_T47 l1 x37_3).f1) && ((((rd_T47 t262 x43_4).f2).toList) == ((rd_T47 l1 x37_3).f2).toList))) = false := by simpa using c30))
                    (try (have c30b2 : (((rd_T47 t262 x43_4).f0) == ((rd_T47 l1 x37_3).f0) && (((rd_T47 t262 x43_4).f1) == ((rd_T47 l1 x37_3).f1) && ((((rd_T47 t262 x43_4).f2).toList) == ((rd_T47 l1 x37_3).f2).toList))) = false := by simpa using c30))
                    (try (have c30b3 : ¬ (((rd_T47 t262 x43_4).f0) = ((rd_T47 l1 x37_3).f0) && (((rd_T47 t262 x43_4).f1) == ((rd_T47 l1 x37_3).f1) && ((((rd_T47 t262 x43_4).f2).toList) == ((rd_T47 l1 x37_3).f2).toList))) := by simpa using c30))
                    clear c30
                    have H' := Aside0.mk H
                    clear H
                    have p271 : 0 ≤ (x43_4 : Int) := of_decide_eq_true (by first | (with_reducible assumption) | assumption)
                    have q271 : x43_4 < (l1.length : Int) := of_decide_eq_true (by first | (with_reducible assumption) | assumption)
                    obtain ⟨ad271, e271, hx271_0, hx271_1, hx271_2⟩ := at_T47 HR1.out x43_4 p271 q271
                    obtain rfl : ad269 = ad271 := (by injection e271)
                    replace hx271_0 := (HB.out.cell (World.block_lt_of_cell? w _ hx271_0)).trans hx271_0
                    replace hx271_1 := (HB.out.cell (World.block_lt_of_cell? w _ hx271_1)).trans hx271_1
                    replace hx271_2 := (HB.out.cell (World.block_lt_of_cell? w _ hx271_2)).trans hx271_2
                    replace p271 := eq_true p271
                    replace q271 := eq_true q271
                    have hcz33_0 : wr.cell? ⟨gb270, 0, none⟩ = some (.int .i64 ((rd_T47 l1 x37_3).f0)) := (blk_cell BK270.out 0).trans rfl
                    have hcz33_1 : wr.cell? ⟨gb270, 1, none⟩ = some (.int .i64 ((rd_T47 l1 x37_3).f1)) := (blk_cell BK270.out 1).trans rfl
                    have hcz33_2 : wr.cell? ⟨gb270, 2, none⟩ = some (.string ((rd_T47 l1 x37_3).f2)) := (blk_cell BK270.out 2).trans rfl
                    have hfz33_0 := blk_frozen BK270.out 0
                    have hfz33_1 := blk_frozen BK270.out 1
                    have hfz33_2 := blk_frozen BK270.out 2
                    obtain ⟨Ao34, co34, eo34⟩ := Kd.R_slice HO_5.out
                    subst eo34
                    have p272 : 0 ≤ (x43_4 : Int) := of_decide_eq_true (by first | (with_reducible assumption) | assumption)
                    have q272 : x43_4 < (t262.length : Int) := of_decide_eq_true (by first | (with_reducible assumption) | assumption)
                    obtain ⟨ad272, e272, hx272_0, hx272_1, hx272_2⟩ := at_T47 (Kd.R_reads' HO_5.out).2.2 x43_4 p272 q272
                    cases e272
                    replace p272 := eq_true p272
                    replace q272 := eq_true q272
                    go_wp2
                    repeat (go_quiet (fail); try go_wp2)
                    go_roundg k4
                    case measure => have := HJ2.out; have := HJ10.out; have := HK3.out; have := HK4.out; omega
                    case rel => exact ⟨(wrap64 (x8_4 + 1)), (x9_4), (wrap64 (x43_4 + 1)), (by first | rfl | (simp; done) | (simp [*]; done)), (by first | rfl | (simp; done) | (simp [*]; done)), (by first | rfl | (simp; done) | (simp [*]; done)), H', ⟨by have := HJ2.out; have := HJ10.out; have := HK3.out; have := HK4.out; omega⟩, ⟨by (with_reducible repeat (first | apply Kd.R_alloc | apply Kd.R_drewN | apply Kd.R_drew)); exact HO_5.out⟩, ⟨by (with_reducible repeat (first | refine blk_drewN ?_ _ | refine blk_drew ?_ | refine blk_alloc ?_ _)); exact BK270.out⟩, ⟨by repeat (first | (with_reducible first | exact HB.out | apply below_alloc | apply pw_below_drewN | apply below_drew1 | refine below_set ?_ GE270.out) | exact HB.out)⟩⟩
                  ·rw [if_neg c29] at H
                   exact absurd H (by simp)
                 ·rw [if_neg c28] at H
                  have c28b0 : (((rd_T47 l1 x43_4).f0) == ((rd_T47 l1 x37_3).f0) && (((rd_T47 l1 x43_4).f1) == ((rd_T47 l1 x37_3).f1) && ((((rd_T47 l1 x43_4).f2).toList) == ((rd_T47 l1 x37_3).f2).toList))) = false := by simpa using c28
                  (try (have c28b1 : decide (((rd_T47 l1 x43_4).f0) = ((rd_T47 l1 x37_3).f0) && (((rd_T47 l1 x43_4).f1) == ((rd_T47 l1 x37_3).f1) && ((((rd_T47 l1 x43_4).f2).toList) == ((rd_T47 l1 x37_3).f2).toList))) = false := by simpa using c28))
                  (try (have c28b2 : (((rd_T47 l1 x43_4).f0) == ((rd_T47 l1 x37_3).f0) && (((rd_T47 l1 x43_4).f1) == ((rd_T47 l1 x37_3).f1) && ((((rd_T47 l1 x43_4).f2).toList) == ((rd_T47 l1 x37_3).f2).toList))) = false := by simpa using c28))
                  (try (have c28b3 : ¬ (((rd_T47 l1 x43_4).f0) = ((rd_T47 l1 x37_3).f0) && (((rd_T47 l1 x43_4).f1) == ((rd_T47 l1 x37_3).f1) && ((((rd_T47 l1 x43_4).f2).toList) == ((rd_T47 l1 x37_3).f2).toList))) := by simpa using c28))
                  clear c28
                  by_cases c35 : x43_4 < (t262.length : Int)
                  ·rw [if_pos c35] at H
                   have c35b0 : decide (x43_4 < (t262.length : Int)) = true := decide_eq_true c35
                   clear c35
                   by_cases c36 : (((rd_T47 t262 x43_4).f0) == ((rd_T47 l1 x37_3).f0) && (((rd_T47 t262 x43_4).f1) == ((rd_T47 l1 x37_3).f1) && ((((rd_T47 t262 x43_4).f2).toList) == ((rd_T47 l1 x37_3).f2).toList))) = true
                   ·rw [if_pos c36] at H
                    have c36b0 : (((rd_T47 t262 x43_4).f0) == ((rd_T47 l1 x37_3).f0) && (((rd_T47 t262 x43_4).f1) == ((rd_T47 l1 x37_3).f1) && ((((rd_T47 t262 x43_4).f2).toList) == ((rd_T47 l1 x37_3).f2).toList))) = true := c36
                    (try (have c36b1 : decide (((rd_T47 t262 x43_4).f0) = ((rd_T47 l1 x37_3).f0) && (((rd_T47 t262 x43_4).f1) == ((rd_T47 l1 x37_3).f1) && ((((rd_T47 t262 x43_4).f2).toList) == ((rd_T47 l1 x37_3).f2).toList))) = true := by simpa using c36))
                    (try (have c36b2 : (((rd_T47 t262 x43_4).f0) == ((rd_T47 l1 x37_3).f0) && (((rd_T47 t262 x43_4).f1) == ((rd_T47 l1 x37_3).f1) && ((((rd_T47 t262 x43_4).f2).toList) == ((rd_T47 l1 x37_3).f2).toList))) = true := by simpa using c36))
                    clear c36
                    have H' := Aside0.mk H
                    clear H
                    have p271 : 0 ≤ (x43_4 : Int) := of_decide_eq_true (by first | (with_reducible assumption) | assumption)
                    have q271 : x43_4 < (l1.length : Int) := of_decide_eq_true (by first | (with_reducible assumption) | assumption)
                    obtain ⟨ad271, e271, hx271_0, hx271_1, hx271_2⟩ := at_T47 HR1.out x43_4 p271 q271
                    obtain rfl : ad269 = ad271 := (by injection e271)
                    replace hx271_0 := (HB.out.cell (World.block_lt_of_cell? w _ hx271_0)).trans hx271_0
                    replace hx271_1 := (HB.out.cell (World.block_lt_of_cell? w _ hx271_1)).trans hx271_1
                    replace hx271_2 := (HB.out.cell (World.block_lt_of_cell? w _ hx271_2)).trans hx271_2
                    replace p271 := eq_true p271
                    replace q271 := eq_true q271
                    have hcz37_0 : wr.cell? ⟨gb270, 0, none⟩ = some (.int .i64 ((rd_T47 l1 x37_3).f0)) := (blk_cell BK270.out 0).trans rfl
                    have hcz37_1 : wr.cell? ⟨gb270, 1, none⟩ = some (.int .i64 ((rd_T47 l1 x37_3).f1)) := (blk_cell BK270.out 1).trans rfl
                    have hcz37_2 : wr.cell? ⟨gb270, 2, none⟩ = some (.string ((rd_T47 l1 x37_3).f2)) := (blk_cell BK270.out 2).trans rfl
                    have hfz37_0 := blk_frozen BK270.out 0
                    have hfz37_1 := blk_frozen BK270.out 1
                    have hfz37_2 := blk_frozen BK270.out 2
                    obtain ⟨Ao38, co38, eo38⟩ := Kd.R_slice HO_5.out
                    subst eo38
                    have p273 : 0 ≤ (x43_4 : Int) := of_decide_eq_true (by first | (with_reducible assumption) | assumption)
                    have q273 : x43_4 < (t262.length : Int) := of_decide_eq_true (by first | (with_reducible assumption) | assumption)
                    obtain ⟨ad273, e273, hx273_0, hx273_1, hx273_2⟩ := at_T47 (Kd.R_reads' HO_5.out).2.2 x43_4 p273 q273
                    cases e273
                    replace p273 := eq_true p273
                    replace q273 := eq_true q273
                    go_wp2
                    repeat (go_quiet (fail); try go_wp2)
                    go_roundg k4
                    case measure => have := HJ2.out; have := HJ10.out; have := HK3.out; have := HK4.out; omega
                    case rel => exact ⟨(x8_4), (wrap64 (x9_4 + 1)), (wrap64 (x43_4 + 1)), (by first | rfl | (simp; done) | (simp [*]; done)), (by first | rfl | (simp; done) | (simp [*]; done)), (by first | rfl | (simp; done) | (simp [*]; done)), H', ⟨by have := HJ2.out; have := HJ10.out; have := HK3.out; have := HK4.out; omega⟩, ⟨by (with_reducible repeat (first | apply Kd.R_alloc | apply Kd.R_drewN | apply Kd.R_drew)); exact HO_5.out⟩, ⟨by (with_reducible repeat (first | refine blk_drewN ?_ _ | refine blk_drew ?_ | refine blk_alloc ?_ _)); exact BK270.out⟩, ⟨by repeat (first | (with_reducible first | exact HB.out | apply below_alloc | apply pw_below_drewN | apply below_drew1 | refine below_set ?_ GE270.out) | exact HB.out)⟩⟩
                   ·rw [if_neg c36] at H
                    have c36b0 : (((rd_T47 t262 x43_4).f0) == ((rd_T47 l1 x37_3).f0) && (((rd_T47 t262 x43_4).f1) == ((rd_T47 l1 x37_3).f1) && ((((rd_T47 t262 x43_4).f2).toList) == ((rd_T47 l1 x37_3).f2).toList))) = false := by simpa using c36
                    (try (have c36b1 : decide (((rd_T47 t262 x43_4).f0) = ((rd_T47 l1 x37_3).f0) && (((rd_T47 t262 x43_4).f1) == ((rd_T47 l1 x37_3).f1) && ((((rd_T47 t262 x43_4).f2).toList) == ((rd_T47 l1 x37_3).f2).toList))) = false := by simpa using c36))
                    (try (have c36b2 : (((rd_T47 t262 x43_4).f0) == ((rd_T47 l1 x37_3).f0) && (((rd_T47 t262 x43_4).f1) == ((rd_T47 l1 x37_3).f1) && ((((rd_T47 t262 x43_4).f2).toList) == ((rd_T47 l1 x37_3).f2).toList))) = false := by simpa using c36))
                    (try (have c36b3 : ¬ (((rd_T47 t262 x43_4).f0) = ((rd_T47 l1 x37_3).f0) && (((rd_T47 t262 x43_4).f1) == ((rd_T47 l1 x37_3).f1) && ((((rd_T47 t262 x43_4).f2).toList) == ((rd_T47 l1 x37_3).f2).toList))) := by simpa using c36))
                    clear c36
                    have H' := Aside0.mk H
                    clear H
                    have p271 : 0 ≤ (x43_4 : Int) := of_decide_eq_true (by first | (with_reducible assumption) | assumption)
                    have q271 : x43_4 < (l1.length : Int) := of_decide_eq_true (by first | (with_reducible assumption) | assumption)
                    obtain ⟨ad271, e271, hx271_0, hx271_1, hx271_2⟩ := at_T47 HR1.out x43_4 p271 q271
                    obtain rfl : ad269 = ad271 := (by injection e271)
                    replace hx271_0 := (HB.out.cell (World.block_lt_of_cell? w _ hx271_0)).trans hx271_0
                    replace hx271_1 := (HB.out.cell (World.block_lt_of_cell? w _ hx271_1)).trans hx271_1
                    replace hx271_2 := (HB.out.cell (World.block_lt_of_cell? w _ hx271_2)).trans hx271_2
                    replace p271 := eq_true p271
                    replace q271 := eq_true q271
                    have hcz39_0 : wr.cell? ⟨gb270, 0, none⟩ = some (.int .i64 ((rd_T47 l1 x37_3).f0)) := (blk_cell BK270.out 0).trans rfl
                    have hcz39_1 : wr.cell? ⟨gb270, 1, none⟩ = some (.int .i64 ((rd_T47 l1 x37_3).f1)) := (blk_cell BK270.out 1).trans rfl
                    have hcz39_2 : wr.cell? ⟨gb270, 2, none⟩ = some (.string ((rd_T47 l1 x37_3).f2)) := (blk_cell BK270.out 2).trans rfl
                    have hfz39_0 := blk_frozen BK270.out 0
                    have hfz39_1 := blk_frozen BK270.out 1
                    have hfz39_2 := blk_frozen BK270.out 2
                    obtain ⟨Ao40, co40, eo40⟩ := Kd.R_slice HO_5.out
                    subst eo40
                    have p273 : 0 ≤ (x43_4 : Int) := of_decide_eq_true (by first | (with_reducible assumption) | assumption)
                    have q273 : x43_4 < (t262.length : Int) := of_decide_eq_true (by first | (with_reducible assumption) | assumption)
                    obtain ⟨ad273, e273, hx273_0, hx273_1, hx273_2⟩ := at_T47 (Kd.R_reads' HO_5.out).2.2 x43_4 p273 q273
                    cases e273
                    replace p273 := eq_true p273
                    replace q273 := eq_true q273
                    go_wp2
                    repeat (go_quiet (fail); try go_wp2)
                    go_roundg k4
                    case measure => have := HJ2.out; have := HJ10.out; have := HK3.out; have := HK4.out; omega
                    case rel => exact ⟨(x8_4), (x9_4), (wrap64 (x43_4 + 1)), (by first | rfl | (simp; done) | (simp [*]; done)), (by first | rfl | (simp; done) | (simp [*]; done)), (by first | rfl | (simp; done) | (simp [*]; done)), H', ⟨by have := HJ2.out; have := HJ10.out; have := HK3.out; have := HK4.out; omega⟩, ⟨by (with_reducible repeat (first | apply Kd.R_alloc | apply Kd.R_drewN | apply Kd.R_drew)); exact HO_5.out⟩, ⟨by (with_reducible repeat (first | refine blk_drewN ?_ _ | refine blk_drew ?_ | refine blk_alloc ?_ _)); exact BK270.out⟩, ⟨by repeat (first | (with_reducible first | exact HB.out | apply below_alloc | apply pw_below_drewN | apply below_drew1 | refine below_set ?_ GE270.out) | exact HB.out)⟩⟩
                  ·rw [if_neg c35] at H
                   exact absurd H (by simp)
                ·rw [if_neg c27] at H
                 exact absurd H (by simp)
               ·rw [if_neg c26] at H
                exact absurd H (by simp)
              ·rw [if_neg c25] at H
               have c25b0 : decide (x43_4 < (l1.length : Int)) = false := decide_eq_false c25
               clear c25
               by_cases c41 : x8_4 = x9_4
               ·rw [if_pos c41] at H
                have c41b0 : (x8_4 == x9_4) = true := beq_iff_eq.mpr c41
                have c41b1 : (x8_4 != x9_4) = false := bne_eq_false_iff_eq.mpr c41
                clear c41
                have H' := Aside0.mk H
                clear H
                go_wp2
                repeat (go_quiet (fail); try go_wp2)
                go_roundg k4
                case measure => have := HJ2.out; have := HJ10.out; have := HK3.out; have := HK4.out; omega
                case rel => exact ⟨(wrap64 (x37_3 + 1)), (by first | rfl | (simp; done) | (simp [*]; done)), H', ⟨by have := HJ2.out; have := HJ10.out; have := HK3.out; have := HK4.out; omega⟩, ⟨by (with_reducible repeat (first | apply Kd.R_alloc | apply Kd.R_drewN | apply Kd.R_drew)); exact Kd.R_mono HO_5.out (fun _ hk => trivial)⟩, ⟨by repeat (first | (with_reducible first | exact HB.out | apply below_alloc | apply pw_below_drewN | apply below_drew1 | refine below_set ?_ GE270.out) | exact HB.out)⟩⟩
               ·rw [if_neg c41] at H
                exact absurd H (by simp)
           ·rw [if_neg c22] at H
            exact absurd H (by simp)
          ·rw [if_neg c21] at H
           exact absurd H (by simp)
         ·rw [if_neg c20] at H
          have c20b0 : decide (x37_3 < (l1.length : Int)) = false := decide_eq_false c20
          clear c20
          have H' := Aside0.mk H
          clear H
          go_wp2
          repeat (go_quiet (fail); try go_wp2)
          go_loopg [11] k3 (fun kq v11 w' => ∃ (x11_4 : Int), v11 = .int .i64 x11_4 ∧ Aside0 (oriellaw02_EditSorted.l2 kq a0 l1 t262 x11_4 = some r) ∧ Aside0 (kq ≤ k3) ∧ Aside0 (Kd.R k47 47 w' w.heap.size (fun _ => True) v263 t262) ∧ Aside0 (Below w.heap.size w w'))
          case atStart => exact ⟨(1), (by first | rfl | (simp; done) | (simp [*]; done)), H', ⟨Nat.le_refl _⟩, ⟨by (with_reducible repeat (first | apply Kd.R_alloc | apply Kd.R_drewN | apply Kd.R_drew)); exact HO_5.out⟩, ⟨by repeat (first | (with_reducible first | exact HB.out | apply below_alloc | apply pw_below_drewN | apply below_drew1) | exact HB.out)⟩⟩
          case round =>
           clear H'
           (try clear c1);(try clear c2);(try clear p2);(try clear q2);(try clear hx2);(try clear c3);(try clear c4);(try clear c4b0);(try clear c4b1);(try clear p6);(try clear c7);(try clear c8);(try clear c13);(try clear c13b0);(try clear c13b1);(try clear c13b2);(try clear c19);(try clear c20);(try clear c20b0);(try clear c21);(try clear c21b0);(try clear c22);(try clear c22b0);(try clear c25);(try clear c25b0);(try clear c26);(try clear c26b0);(try clear p26);(try clear q26);(try clear hx26);(try clear c27);(try clear c27b0);(try clear p27);(try clear q27);(try clear hx27);(try clear c28);(try clear c28b0);(try clear c28b1);(try clear c28b2);(try clear c29);(try clear c29b0);(try clear c30);(try clear c30b0);(try clear c30b1);(try clear c30b2);(try clear c35);(try clear c35b0);(try clear c36);(try clear c36b0);(try clear c36b1);(try clear c36b2);(try clear c41);(try clear c41b0);(try clear c41b1);(try clear hcz24_0);(try clear hcz24_1);(try clear hcz24_2);(try clear hcz31_0);(try clear hcz31_1);(try clear hcz31_2);(try clear hcz33_0);(try clear hcz33_1);(try clear hcz33_2);(try clear hcz37_0);(try clear hcz37_1);(try clear hcz37_2);(try clear hcz39_0);(try clear hcz39_1);(try clear hcz39_2);(try clear hfz24_0);(try clear hfz24_1);(try clear hfz24_2);(try clear hfz31_0);(try clear hfz31_1);(try clear hfz31_2);(try clear hfz33_0);(try clear hfz33_1);(try clear hfz33_2);(try clear hfz37_0);(try clear hfz37_1);(try clear hfz37_2);(try clear hfz39_0);(try clear hfz39_1);(try clear hfz39_2);(try clear hx269_0);(try clear hx269_1);(try clear hx269_2);(try clear hx271_0);(try clear hx271_1);(try clear hx271_2);(try clear hx272_0);(try clear hx272_1);(try clear hx272_2);(try clear hx273_0);(try clear hx273_1);(try clear hx273_2);(try clear p2);(try clear p269);(try clear p271);(try clear p272);(try clear p273);(try clear q2);(try clear q269);(try clear q271);(try clear q272);(try clear q273)
           obtain ⟨x11_4, rfl, HA, HK4, HO_5, HB⟩ := hrel
           cases gk with
           | zero => exact absurd HA.out (by simp [oriellaw02_EditSorted.l2])
           | succ k4 =>
            have H := HA.out
            clear HA
            simp only [oriellaw02_EditSorted.l2] at H
            by_cases c42 : x11_4 < (t262.length : Int)
            ·rw [if_pos c42] at H
             have c42b0 : decide (x11_4 < (t262.length : Int)) = true := decide_eq_true c42
             clear c42
             obtain ⟨ji43, hji43⟩ : ∃ j_ : Int, (wrap64 (x11_4 - 1)) = j_ := ⟨_, rfl⟩
             replace H : (if 0 ≤ (ji43) then (if (ji43) < (t262.length : Int) then (if 0 ≤ x11_4 then (if ((rd_T47 t262 (ji43)).f0) > ((rd_T47 t262 x11_4).f0) then (none) else (if ((rd_T47 t262 (ji43)).f0) = ((rd_T47 t262 x11_4).f0) then (if ((rd_T47 t262 (ji43)).f1) > ((rd_T47 t262 x11_4).f1) then (none) else (oriellaw02_EditSorted.l2 k4 a0 l1 t262 (wrap64 (x11_4 + 1)))) else (oriellaw02_EditSorted.l2 k4 a0 l1 t262 (wrap64 (x11_4 + 1))))) else (none)) else (none)) else (none)) = some r := by first | (rw [hji43] at H; exact H) | (simp only [hji43] at H ⊢; exact H)
             have hji43w : (IntKind.i64.wrap (x11_4 - 1)) = ji43 := (i64_w _).trans hji43
             by_cases c44 : 0 ≤ (ji43)
             ·rw [if_pos c44] at H
              have c44b0 : decide (0 ≤ (ji43)) = true := decide_eq_true c44
              clear c44
              by_cases c45 : (ji43) < (t262.length : Int)
              ·rw [if_pos c45] at H
               have c45b0 : decide ((ji43) < (t262.length : Int)) = true := decide_eq_true c45
               clear c45
               by_cases c46 : 0 ≤ x11_4
               ·rw [if_pos c46] at H
                have c46b0 : decide (0 ≤ x11_4) = true := decide_eq_true c46
                clear c46
                by_cases c47 : ((rd_T47 t262 (ji43)).f0) > ((rd_T47 t262 x11_4).f0)
                ·rw [if_pos c47] at H
                 exact absurd H (by simp)
                ·rw [if_neg c47] at H
                 have c47b0 : decide (((rd_T47 t262 x11_4).f0) < ((rd_T47 t262 (ji43)).f0)) = false := decide_eq_false c47
                 clear c47
                 by_cases c48 : ((rd_T47 t262 (ji43)).f0) = ((rd_T47 t262 x11_4).f0)
                 ·rw [if_pos c48] at H
                  have c48b0 : (((rd_T47 t262 (ji43)).f0) == ((rd_T47 t262 x11_4).f0)) = true := beq_iff_eq.mpr c48
                  have c48b1 : (((rd_T47 t262 (ji43)).f0) != ((rd_T47 t262 x11_4).f0)) = false := bne_eq_false_iff_eq.mpr c48
                  clear c48
                  by_cases c49 : ((rd_T47 t262 (ji43)).f1) > ((rd_T47 t262 x11_4).f1)
                  ·rw [if_pos c49] at H
                   exact absurd H (by simp)
                  ·rw [if_neg c49] at H
                   have c49b0 : decide (((rd_T47 t262 x11_4).f1) < ((rd_T47 t262 (ji43)).f1)) = false := decide_eq_false c49
                   clear c49
                   have H' := Aside0.mk H
                   clear H
                   obtain ⟨Ao50, co50, eo50⟩ := Kd.R_slice HO_5.out
                   subst eo50
                   have p274 : 0 ≤ ((ji43) : Int) := of_decide_eq_true (by first | (with_reducible assumption) | assumption)
                   have q274 : (ji43) < (t262.length : Int) := of_decide_eq_true (by first | (with_reducible assumption) | assumption)
                   obtain ⟨ad274, e274, hx274_0, hx274_1, hx274_2⟩ := at_T47 (Kd.R_reads' HO_5.out).2.2 (ji43) p274 q274
                   cases e274
                   replace p274 := eq_true p274
                   replace q274 := eq_true q274
                   have p275 : 0 ≤ (x11_4 : Int) := of_decide_eq_true (by first | (with_reducible assumption) | assumption)
                   have q275 : x11_4 < (t262.length : Int) := of_decide_eq_true (by first | (with_reducible assumption) | assumption)
                   obtain ⟨ad275, e275, hx275_0, hx275_1, hx275_2⟩ := at_T47 (Kd.R_reads' HO_5.out).2.2 x11_4 p275 q275
                   obtain rfl : ad274 = ad275 := (by injection e275)
                   replace p275 := eq_true p275
                   replace q275 := eq_true q275
                   have p276 : 0 ≤ ((ji43) : Int) := of_decide_eq_true (by first | (with_reducible assumption) | assumption)
                   have q276 : (ji43) < (t262.length : Int) := of_decide_eq_true (by first | (with_reducible assumption) | assumption)
                   obtain ⟨ad276, e276, hx276_0, hx276_1, hx276_2⟩ := at_T47 (Kd.R_reads' HO_5.out).2.2 (ji43) p276 q276
                   obtain rfl : ad274 = ad276 := (by injection e276)
                   replace p276 := eq_true p276
                   replace q276 := eq_true q276
                   have p277 : 0 ≤ (x11_4 : Int) := of_decide_eq_true (by first | (with_reducible assumption) | assumption)
                   have q277 : x11_4 < (t262.length : Int) := of_decide_eq_true (by first | (with_reducible assumption) | assumption)
                   obtain ⟨ad277, e277, hx277_0, hx277_1, hx277_2⟩ := at_T47 (Kd.R_reads' HO_5.out).2.2 x11_4 p277 q277
                   obtain rfl : ad274 = ad277 := (by injection e277)
                   replace p277 := eq_true p277
                   replace q277 := eq_true q277
                   have p278 : 0 ≤ ((ji43) : Int) := of_decide_eq_true (by first | (with_reducible assumption) | assumption)
                   have q278 : (ji43) < (t262.length : Int) := of_decide_eq_true (by first | (with_reducible assumption) | assumption)
                   obtain ⟨ad278, e278, hx278_0, hx278_1, hx278_2⟩ := at_T47 (Kd.R_reads' HO_5.out).2.2 (ji43) p278 q278
                   obtain rfl : ad274 = ad278 := (by injection e278)
                   replace p278 := eq_true p278
                   replace q278 := eq_true q278
                   have p279 : 0 ≤ (x11_4 : Int) := of_decide_eq_true (by first | (with_reducible assumption) | assumption)
                   have q279 : x11_4 < (t262.length : Int) := of_decide_eq_true (by first | (with_reducible assumption) | assumption)
                   obtain ⟨ad279, e279, hx279_0, hx279_1, hx279_2⟩ := at_T47 (Kd.R_reads' HO_5.out).2.2 x11_4 p279 q279
                   obtain rfl : ad274 = ad279 := (by injection e279)
                   replace p279 := eq_true p279
                   replace q279 := eq_true q279
                   go_wp2
                   repeat (go_quiet (fail); try go_wp2)
                   go_roundg k4
                   case measure => have := HJ2.out; have := HJ10.out; have := HK3.out; have := HK4.out; omega
                   case rel => exact ⟨(wrap64 (x11_4 + 1)), (by first | rfl | (simp; done) | (simp [*]; done)), H', ⟨by have := HJ2.out; have := HJ10.out; have := HK3.out; have := HK4.out; omega⟩, ⟨by (with_reducible repeat (first | apply Kd.R_alloc | apply Kd.R_drewN | apply Kd.R_drew)); exact HO_5.out⟩, ⟨by repeat (first | (with_reducible first | exact HB.out | apply below_alloc | apply pw_below_drewN | apply below_drew1) | exact HB.out)⟩⟩
                 ·rw [if_neg c48] at H
                  have c48b0 : (((rd_T47 t262 (ji43)).f0) == ((rd_T47 t262 x11_4).f0)) = false := beq_eq_false_iff_ne.mpr c48
                  have c48b1 : (((rd_T47 t262 (ji43)).f0) != ((rd_T47 t262 x11_4).f0)) = true := bne_iff_ne.mpr c48
                  have H' := Aside0.mk H
                  clear H
                  obtain ⟨Ao51, co51, eo51⟩ := Kd.R_slice HO_5.out
                  subst eo51
                  have p274 : 0 ≤ ((ji43) : Int) := of_decide_eq_true (by first | (with_reducible assumption) | assumption)
                  have q274 : (ji43) < (t262.length : Int) := of_decide_eq_true (by first | (with_reducible assumption) | assumption)
                  obtain ⟨ad274, e274, hx274_0, hx274_1, hx274_2⟩ := at_T47 (Kd.R_reads' HO_5.out).2.2 (ji43) p274 q274
                  cases e274
                  replace p274 := eq_true p274
                  replace q274 := eq_true q274
                  have p275 : 0 ≤ (x11_4 : Int) := of_decide_eq_true (by first | (with_reducible assumption) | assumption)
                  have q275 : x11_4 < (t262.length : Int) := of_decide_eq_true (by first | (with_reducible assumption) | assumption)
                  obtain ⟨ad275, e275, hx275_0, hx275_1, hx275_2⟩ := at_T47 (Kd.R_reads' HO_5.out).2.2 x11_4 p275 q275
                  obtain rfl : ad274 = ad275 := (by injection e275)
                  replace p275 := eq_true p275
                  replace q275 := eq_true q275
                  have p276 : 0 ≤ ((ji43) : Int) := of_decide_eq_true (by first | (with_reducible assumption) | assumption)
                  have q276 : (ji43) < (t262.length : Int) := of_decide_eq_true (by first | (with_reducible assumption) | assumption)
                  obtain ⟨ad276, e276, hx276_0, hx276_1, hx276_2⟩ := at_T47 (Kd.R_reads' HO_5.out).2.2 (ji43) p276 q276
                  obtain rfl : ad274 = ad276 := (by injection e276)
                  replace p276 := eq_true p276
                  replace q276 := eq_true q276
                  have p277 : 0 ≤ (x11_4 : Int) := of_decide_eq_true (by first | (with_reducible assumption) | assumption)
                  have q277 : x11_4 < (t262.length : Int) := of_decide_eq_true (by first | (with_reducible assumption) | assumption)
                  obtain ⟨ad277, e277, hx277_0, hx277_1, hx277_2⟩ := at_T47 (Kd.R_reads' HO_5.out).2.2 x11_4 p277 q277
                  obtain rfl : ad274 = ad277 := (by injection e277)
                  replace p277 := eq_true p277
                  replace q277 := eq_true q277
                  go_wp2
                  repeat (go_quiet (fail); try go_wp2)
                  go_roundg k4
                  case measure => have := HJ2.out; have := HJ10.out; have := HK3.out; have := HK4.out; omega
                  case rel => exact ⟨(wrap64 (x11_4 + 1)), (by first | rfl | (simp; done) | (simp [*]; done)), H', ⟨by have := HJ2.out; have := HJ10.out; have := HK3.out; have := HK4.out; omega⟩, ⟨by (with_reducible repeat (first | apply Kd.R_alloc | apply Kd.R_drewN | apply Kd.R_drew)); exact HO_5.out⟩, ⟨by repeat (first | (with_reducible first | exact HB.out | apply below_alloc | apply pw_below_drewN | apply below_drew1) | exact HB.out)⟩⟩
               ·rw [if_neg c46] at H
                exact absurd H (by simp)
              ·rw [if_neg c45] at H
               exact absurd H (by simp)
             ·rw [if_neg c44] at H
              exact absurd H (by simp)
            ·rw [if_neg c42] at H
             have c42b0 : decide (x11_4 < (t262.length : Int)) = false := decide_eq_false c42
             clear c42
             replace H := Option.bind_eq_some_iff.mp H
             obtain ⟨t280, A520, H⟩ := H
             replace H : (if t280 = 0 then ((orielref02_Same.f k4 t262 l1).bind fun t281 => (if t281 = true then ((oriellaw02_alive.f k4).bind fun t282 => (some t282)) else (none))) else ((oriellaw02_alive.f k4).bind fun t283 => (some t283))) = some r := H
             have A52 := Aside0.mk A520
             clear A520
             by_cases c53 : t280 = 0
             ·rw [if_pos c53] at H
              have c53b0 : (t280 == 0) = true := beq_iff_eq.mpr c53
              have c53b1 : (t280 != 0) = false := bne_eq_false_iff_eq.mpr c53
              clear c53
              replace H := Option.bind_eq_some_iff.mp H
              obtain ⟨t281, A540, H⟩ := H
              replace H : (if t281 = true then ((oriellaw02_alive.f k4).bind fun t282 => (some t282)) else (none)) = some r := H
              have A54 := Aside0.mk A540
              clear A540
              by_cases c55 : t281 = true
              ·subst c55
               have H1 : ((oriellaw02_alive.f k4).bind fun t282 => (some t282)) = some r := by rw [if_pos rfl] at H; exact H
               clear H
               have H := H1
               clear H1
               replace H := Option.bind_eq_some_iff.mp H
               obtain ⟨t282, A560, H⟩ := H
               replace H : (some t282) = some r := H
               have A56 := Aside0.mk A560
               clear A560
               obtain rfl := Option.some.inj H
               obtain ⟨Ao57, co57, eo57⟩ := Kd.R_slice HO_5.out
               subst eo57
               go_wp2_with (first | (go_at_call 22; (with_reducible refine (edit_Check.calls k4 (a0.size : Int) _ _ l1 t280 _ ?side1 ?side2 A52.out).mono ?_); (case side1 => repeat (first | exact (Kd.C_below HR1.out HB.out) | (with_reducible refine Kd.C_alloc ?_ _) | (with_reducible refine Kd.C_drewN ?_ _) | (with_reducible refine Kd.C_drew ?_))); (case side2 => exact HC1.out); rintro e w58 ⟨rfl, hb⟩; have n0_ := Aside0.mk (Kd.R_below (by (with_reducible repeat (first | apply Kd.R_alloc | apply Kd.R_drewN | apply Kd.R_drew)); exact HO_5.out) hb); have n1_ := Aside0.mk (below_step (by repeat (first | (with_reducible first | exact HB.out | apply below_alloc | apply pw_below_drewN | apply below_drew1) | exact HB.out)) hb); clear HO_5; clear HB; have HO_5 := n0_; have HB := n1_; clear n0_ n1_; (try clear hb); (try clear hb2); (try clear hk); (try clear hi)) | (go_at_call 24; (with_reducible refine (orielref02_Same.calls k4 _ _ t262 _ _ l1 true _ ?side1 ?side2 ?side3 ?side4 A54.out).mono ?_); (case side1 => repeat (first | exact (Kd.R_reads' HO_5.out).2.2 | (with_reducible refine Kd.C_alloc ?_ _) | (with_reducible refine Kd.C_drewN ?_ _) | (with_reducible refine Kd.C_drew ?_))); (case side2 => exact (Kd.R_reads' HO_5.out).2.1); (case side3 => repeat (first | exact (Kd.C_below HR1.out HB.out) | (with_reducible refine Kd.C_alloc ?_ _) | (with_reducible refine Kd.C_drewN ?_ _) | (with_reducible refine Kd.C_drew ?_))); (case side4 => exact HC1.out); rintro e w' ⟨rfl, ⟨nd, rfl⟩⟩; (try first | exact ⟨rfl, _, World.drewN_drewN _ _ _⟩ | exact ⟨rfl, _, Eq.trans (World.drewN_drewN _ _ _) (congrArg (World.drewN _) (Nat.add_assoc _ _ _))⟩)) | (go_at_call 10; (with_reducible refine (oriellaw02_alive.calls k4  t282 _ A56.out).mono ?_); rintro e w59 ⟨rfl, hb⟩; have n0_ := Aside0.mk (Kd.R_below (by (with_reducible repeat (first | apply Kd.R_alloc | apply Kd.R_drewN | apply Kd.R_drew)); exact HO_5.out) hb); have n1_ := Aside0.mk (below_step (by repeat (first | (with_reducible first | exact HB.out | apply below_alloc | apply pw_below_drewN | apply below_drew1) | exact HB.out)) hb); clear HO_5; clear HB; have HO_5 := n0_; have HB := n1_; clear n0_ n1_; (try clear hb); (try clear hb2); (try clear hk); (try clear hi)))
               repeat (go_quiet (first | (go_at_call 22; (with_reducible refine (edit_Check.calls k4 (a0.size : Int) _ _ l1 t280 _ ?side1 ?side2 A52.out).mono ?_); (case side1 => repeat (first | exact (Kd.C_below HR1.out HB.out) | (with_reducible refine Kd.C_alloc ?_ _) | (with_reducible refine Kd.C_drewN ?_ _) | (with_reducible refine Kd.C_drew ?_))); (case side2 => exact HC1.out); rintro e w58 ⟨rfl, hb⟩; have n0_ := Aside0.mk (Kd.R_below (by (with_reducible repeat (first | apply Kd.R_alloc | apply Kd.R_drewN | apply Kd.R_drew)); exact HO_5.out) hb); have n1_ := Aside0.mk (below_step (by repeat (first | (with_reducible first | exact HB.out | apply below_alloc | apply pw_below_drewN | apply below_drew1) | exact HB.out)) hb); clear HO_5; clear HB; have HO_5 := n0_; have HB := n1_; clear n0_ n1_; (try clear hb); (try clear hb2); (try clear hk); (try clear hi)) | (go_at_call 24; (with_reducible refine (orielref02_Same.calls k4 _ _ t262 _ _ l1 true _ ?side1 ?side2 ?side3 ?side4 A54.out).mono ?_); (case side1 => repeat (first | exact (Kd.R_reads' HO_5.out).2.2 | (with_reducible refine Kd.C_alloc ?_ _) | (with_reducible refine Kd.C_drewN ?_ _) | (with_reducible refine Kd.C_drew ?_))); (case side2 => exact (Kd.R_reads' HO_5.out).2.1); (case side3 => repeat (first | exact (Kd.C_below HR1.out HB.out) | (with_reducible refine Kd.C_alloc ?_ _) | (with_reducible refine Kd.C_drewN ?_ _) | (with_reducible refine Kd.C_drew ?_))); (case side4 => exact HC1.out); rintro e w' ⟨rfl, ⟨nd, rfl⟩⟩; (try first | exact ⟨rfl, _, World.drewN_drewN _ _ _⟩ | exact ⟨rfl, _, Eq.trans (World.drewN_drewN _ _ _) (congrArg (World.drewN _) (Nat.add_assoc _ _ _))⟩)) | (go_at_call 10; (with_reducible refine (oriellaw02_alive.calls k4  t282 _ A56.out).mono ?_); rintro e w59 ⟨rfl, hb⟩; have n0_ := Aside0.mk (Kd.R_below (by (with_reducible repeat (first | apply Kd.R_alloc | apply Kd.R_drewN | apply Kd.R_drew)); exact HO_5.out) hb); have n1_ := Aside0.mk (below_step (by repeat (first | (with_reducible first | exact HB.out | apply below_alloc | apply pw_below_drewN | apply below_drew1) | exact HB.out)) hb); clear HO_5; clear HB; have HO_5 := n0_; have HB := n1_; clear n0_ n1_; (try clear hb); (try clear hb2); (try clear hk); (try clear hi))); try go_wp2_with (first | (go_at_call 22; (with_reducible refine (edit_Check.calls k4 (a0.size : Int) _ _ l1 t280 _ ?side1 ?side2 A52.out).mono ?_); (case side1 => repeat (first | exact (Kd.C_below HR1.out HB.out) | (with_reducible refine Kd.C_alloc ?_ _) | (with_reducible refine Kd.C_drewN ?_ _) | (with_reducible refine Kd.C_drew ?_))); (case side2 => exact HC1.out); rintro e w58 ⟨rfl, hb⟩; have n0_ := Aside0.mk (Kd.R_below (by (with_reducible repeat (first | apply Kd.R_alloc | apply Kd.R_drewN | apply Kd.R_drew)); exact HO_5.out) hb); have n1_ := Aside0.mk (below_step (by repeat (first | (with_reducible first | exact HB.out | apply below_alloc | apply pw_below_drewN | apply below_drew1) | exact HB.out)) hb); clear HO_5; clear HB; have HO_5 := n0_; have HB := n1_; clear n0_ n1_; (try clear hb); (try clear hb2); (try clear hk); (try clear hi)) | (go_at_call 24; (with_reducible refine (orielref02_Same.calls k4 _ _ t262 _ _ l1 true _ ?side1 ?side2 ?side3 ?side4 A54.out).mono ?_); (case side1 => repeat (first | exact (Kd.R_reads' HO_5.out).2.2 | (with_reducible refine Kd.C_alloc ?_ _) | (with_reducible refine Kd.C_drewN ?_ _) | (with_reducible refine Kd.C_drew ?_))); (case side2 => exact (Kd.R_reads' HO_5.out).2.1); (case side3 => repeat (first | exact (Kd.C_below HR1.out HB.out) | (with_reducible refine Kd.C_alloc ?_ _) | (with_reducible refine Kd.C_drewN ?_ _) | (with_reducible refine Kd.C_drew ?_))); (case side4 => exact HC1.out); rintro e w' ⟨rfl, ⟨nd, rfl⟩⟩; (try first | exact ⟨rfl, _, World.drewN_drewN _ _ _⟩ | exact ⟨rfl, _, Eq.trans (World.drewN_drewN _ _ _) (congrArg (World.drewN _) (Nat.add_assoc _ _ _))⟩)) | (go_at_call 10; (with_reducible refine (oriellaw02_alive.calls k4  t282 _ A56.out).mono ?_); rintro e w59 ⟨rfl, hb⟩; have n0_ := Aside0.mk (Kd.R_below (by (with_reducible repeat (first | apply Kd.R_alloc | apply Kd.R_drewN | apply Kd.R_drew)); exact HO_5.out) hb); have n1_ := Aside0.mk (below_step (by repeat (first | (with_reducible first | exact HB.out | apply below_alloc | apply pw_below_drewN | apply below_drew1) | exact HB.out)) hb); clear HO_5; clear HB; have HO_5 := n0_; have HB := n1_; clear n0_ n1_; (try clear hb); (try clear hb2); (try clear hk); (try clear hi))))
               go_ret
               exact ⟨by first | rfl | (simp [errW_none, errW_some] <;> rfl) | (simp [*, errW_none, errW_some] <;> rfl), by repeat (first | (with_reducible first | exact HB.out | apply below_alloc | apply pw_below_drewN | apply below_drew1) | exact HB.out)⟩
              ·replace c55 := Bool.eq_false_iff.mpr c55
               subst c55
               have H1 : (none) = some r := by rw [if_neg (show ¬ (false = true) by decide)] at H; exact H
               clear H
               have H := H1
               clear H1
               exact absurd H (by simp)
             ·rw [if_neg c53] at H
              have c53b0 : (t280 == 0) = false := beq_eq_false_iff_ne.mpr c53
              have c53b1 : (t280 != 0) = true := bne_iff_ne.mpr c53
              replace H := Option.bind_eq_some_iff.mp H
              obtain ⟨t283, A600, H⟩ := H
              replace H : (some t283) = some r := H
              have A60 := Aside0.mk A600
              clear A600
              obtain rfl := Option.some.inj H
              obtain ⟨Ao61, co61, eo61⟩ := Kd.R_slice HO_5.out
              subst eo61
              go_wp2_with (first | (go_at_call 22; (with_reducible refine (edit_Check.calls k4 (a0.size : Int) _ _ l1 t280 _ ?side1 ?side2 A52.out).mono ?_); (case side1 => repeat (first | exact (Kd.C_below HR1.out HB.out) | (with_reducible refine Kd.C_alloc ?_ _) | (with_reducible refine Kd.C_drewN ?_ _) | (with_reducible refine Kd.C_drew ?_))); (case side2 => exact HC1.out); rintro e w62 ⟨rfl, hb⟩; have n0_ := Aside0.mk (Kd.R_below (by (with_reducible repeat (first | apply Kd.R_alloc | apply Kd.R_drewN | apply Kd.R_drew)); exact HO_5.out) hb); have n1_ := Aside0.mk (below_step (by repeat (first | (with_reducible first | exact HB.out | apply below_alloc | apply pw_below_drewN | apply below_drew1) | exact HB.out)) hb); clear HO_5; clear HB; have HO_5 := n0_; have HB := n1_; clear n0_ n1_; (try clear hb); (try clear hb2); (try clear hk); (try clear hi)) | (go_at_call 10; (with_reducible refine (oriellaw02_alive.calls k4  t283 _ A60.out).mono ?_); rintro e w63 ⟨rfl, hb⟩; have n0_ := Aside0.mk (Kd.R_below (by (with_reducible repeat (first | apply Kd.R_alloc | apply Kd.R_drewN | apply Kd.R_drew)); exact HO_5.out) hb); have n1_ := Aside0.mk (below_step (by repeat (first | (with_reducible first | exact HB.out | apply below_alloc | apply pw_below_drewN | apply below_drew1) | exact HB.out)) hb); clear HO_5; clear HB; have HO_5 := n0_; have HB := n1_; clear n0_ n1_; (try clear hb); (try clear hb2); (try clear hk); (try clear hi)))
              repeat (go_quiet (first | (go_at_call 22; (with_reducible refine (edit_Check.calls k4 (a0.size : Int) _ _ l1 t280 _ ?side1 ?side2 A52.out).mono ?_); (case side1 => repeat (first | exact (Kd.C_below HR1.out HB.out) | (with_reducible refine Kd.C_alloc ?_ _) | (with_reducible refine Kd.C_drewN ?_ _) | (with_reducible refine Kd.C_drew ?_))); (case side2 => exact HC1.out); rintro e w62 ⟨rfl, hb⟩; have n0_ := Aside0.mk (Kd.R_below (by (with_reducible repeat (first | apply Kd.R_alloc | apply Kd.R_drewN | apply Kd.R_drew)); exact HO_5.out) hb); have n1_ := Aside0.mk (below_step (by repeat (first | (with_reducible first | exact HB.out | apply below_alloc | apply pw_below_drewN | apply below_drew1) | exact HB.out)) hb); clear HO_5; clear HB; have HO_5 := n0_; have HB := n1_; clear n0_ n1_; (try clear hb); (try clear hb2); (try clear hk); (try clear hi)) | (go_at_call 10; (with_reducible refine (oriellaw02_alive.calls k4  t283 _ A60.out).mono ?_); rintro e w63 ⟨rfl, hb⟩; have n0_ := Aside0.mk (Kd.R_below (by (with_reducible repeat (first | apply Kd.R_alloc | apply Kd.R_drewN | apply Kd.R_drew)); exact HO_5.out) hb); have n1_ := Aside0.mk (below_step (by repeat (first | (with_reducible first | exact HB.out | apply below_alloc | apply pw_below_drewN | apply below_drew1) | exact HB.out)) hb); clear HO_5; clear HB; have HO_5 := n0_; have HB := n1_; clear n0_ n1_; (try clear hb); (try clear hb2); (try clear hk); (try clear hi))); try go_wp2_with (first | (go_at_call 22; (with_reducible refine (edit_Check.calls k4 (a0.size : Int) _ _ l1 t280 _ ?side1 ?side2 A52.out).mono ?_); (case side1 => repeat (first | exact (Kd.C_below HR1.out HB.out) | (with_reducible refine Kd.C_alloc ?_ _) | (with_reducible refine Kd.C_drewN ?_ _) | (with_reducible refine Kd.C_drew ?_))); (case side2 => exact HC1.out); rintro e w62 ⟨rfl, hb⟩; have n0_ := Aside0.mk (Kd.R_below (by (with_reducible repeat (first | apply Kd.R_alloc | apply Kd.R_drewN | apply Kd.R_drew)); exact HO_5.out) hb); have n1_ := Aside0.mk (below_step (by repeat (first | (with_reducible first | exact HB.out | apply below_alloc | apply pw_below_drewN | apply below_drew1) | exact HB.out)) hb); clear HO_5; clear HB; have HO_5 := n0_; have HB := n1_; clear n0_ n1_; (try clear hb); (try clear hb2); (try clear hk); (try clear hi)) | (go_at_call 10; (with_reducible refine (oriellaw02_alive.calls k4  t283 _ A60.out).mono ?_); rintro e w63 ⟨rfl, hb⟩; have n0_ := Aside0.mk (Kd.R_below (by (with_reducible repeat (first | apply Kd.R_alloc | apply Kd.R_drewN | apply Kd.R_drew)); exact HO_5.out) hb); have n1_ := Aside0.mk (below_step (by repeat (first | (with_reducible first | exact HB.out | apply below_alloc | apply pw_below_drewN | apply below_drew1) | exact HB.out)) hb); clear HO_5; clear HB; have HO_5 := n0_; have HB := n1_; clear n0_ n1_; (try clear hb); (try clear hb2); (try clear hk); (try clear hi))))
              go_ret
              exact ⟨by first | rfl | (simp [errW_none, errW_some] <;> rfl) | (simp [*, errW_none, errW_some] <;> rfl), by repeat (first | (with_reducible first | exact HB.out | apply below_alloc | apply pw_below_drewN | apply below_drew1) | exact HB.out)⟩
end Go.Proofs.Ytmgeheomokjimaa.PSo
