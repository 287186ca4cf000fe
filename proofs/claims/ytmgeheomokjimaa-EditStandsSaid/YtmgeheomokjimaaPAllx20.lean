-- Written by ownprint.py, a program of this session (out of the kit's print, with contracts of the session's own).
import Derived.Test.YtmgeheomokjimaaPAllx0
import Derived.Test.YtmgeheomokjimaaPAllx3
import Derived.Test.YtmgeheomokjimaaPAllx5
import Derived.Test.YtmgeheomokjimaaPAllx7
import Derived.Test.YtmgeheomokjimaaPAllx8
import Derived.Test.YtmgeheomokjimaaPAllx11
namespace Go.Proofs.Ytmgeheomokjimaa.PAll
open Go.RowKit Go.Proofs.YtmgeheomokjimaaW.PrintWords Go.Proofs.YtmgeheomokjimaaW.PrintLast Go.Proofs.YtmgeheomokjimaaW.PrintMore
attribute [local go_sem] max2_int min2_int max_two min_two max_three min_three max_four min_four   -- for this text's walks alone
set_option linter.unusedVariables false
set_option linter.unusedSimpArgs false

/-! ### oriellaw02_EditStands: function 5 -/
mutual
def oriellaw02_EditStands.j0 : Nat → ByteArray → List (S47) → Bool → Option (Bool)
  | 0, _, _, _ => none
  | k + 1, x0, x1, x24 => if x24 = true then ((oriellaw02_alive.f k).bind fun t206 => (some t206)) else ((edit_Apply.f k x0 x1).bind fun bt207 => ((edit_Kept.f k (x0.size : Int) x1).bind fun bt209 => ((oriellaw01_No.f bt207.2).bind fun t216 => (if t216 = 0 then ((oriellaw01_No.f bt209.2.2).bind fun t217 => (oriellaw02_EditStands.j1 k x0 x1 bt207.1 bt207.2 bt209.1 bt209.2.1 bt209.2.2 (t217 != 0))) else (oriellaw02_EditStands.j1 k x0 x1 bt207.1 bt207.2 bt209.1 bt209.2.1 bt209.2.2 true)))))
def oriellaw02_EditStands.j1 : Nat → ByteArray → List (S47) → ByteArray → Int → List (S45) → List Int → Int → Bool → Option (Bool)
  | 0, _, _, _, _, _, _, _, _ => none
  | k + 1, x0, x1, x5, x6, x7, x8, x9, x47 => if x47 = true then ((oriellaw01_No.f x6).bind fun t218 => ((oriellaw01_No.f x9).bind fun t219 => (if t218 = t219 then ((oriellaw02_alive.f k).bind fun t220 => (some t220)) else (none)))) else (if (x7.length : Int) = (x8.length : Int) then (oriellaw02_EditStands.l0 k x0 x1 x5 x7 x8 0 0 x7 (x7.length : Int) 0) else (none))
def oriellaw02_EditStands.l0 : Nat → ByteArray → List (S47) → ByteArray → List (S45) → List Int → Int → Int → List (S45) → Int → Int → Option (Bool)
  | 0, _, _, _, _, _, _, _, _, _, _ => none
  | k + 1, x0, x1, x5, x7, x8, x10, x11, x61, x62, x63 => if x63 < x62 then (if 0 ≤ x63 then (if x63 < (x61.length : Int) then (if ((rd_T45 x61 x63).f0) < x11 then (none) else (if ((rd_T45 x61 x63).f1) ≤ ((rd_T45 x61 x63).f0) then (none) else (if ((rd_T45 x61 x63).f1) > (x0.size : Int) then (none) else (if x63 < (x8.length : Int) then (if (rd x8 x63) < 0 then (none) else (if (wrap64 ((wrap64 ((rd x8 x63) + ((rd_T45 x61 x63).f1))) - ((rd_T45 x61 x63).f0))) > (x5.size : Int) then (none) else (if 0 ≤ ((rd_T45 x61 x63).f0) then (if ((rd_T45 x61 x63).f0) ≤ ((rd_T45 x61 x63).f1) then (if ((rd_T45 x61 x63).f1) ≤ (x0.size : Int) then (if 0 ≤ (rd x8 x63) then (if (rd x8 x63) ≤ (wrap64 ((wrap64 ((rd x8 x63) + ((rd_T45 x61 x63).f1))) - ((rd_T45 x61 x63).f0))) then (if (wrap64 ((wrap64 ((rd x8 x63) + ((rd_T45 x61 x63).f1))) - ((rd_T45 x61 x63).f0))) ≤ (x5.size : Int) then (oriellaw02_EditStands.j3 k x0 x1 x5 x7 x8 x10 x63 x61 x62 x63 ((x0.extract (((rd_T45 x61 x63).f0) : Int).toNat (((rd_T45 x61 x63).f1) : Int).toNat).toList != (x5.extract ((rd x8 x63) : Int).toNat ((wrap64 ((wrap64 ((rd x8 x63) + ((rd_T45 x61 x63).f1))) - ((rd_T45 x61 x63).f0))) : Int).toNat).toList) ((rd_T45 x61 x63).f0) ((rd_T45 x61 x63).f1)) else (none)) else (none)) else (none)) else (none)) else (none)) else (none)))) else (none))))) else (none)) else (none)) else (oriellaw02_EditStands.l1 k x5 x10 0 x1 (x1.length : Int) 0)
def oriellaw02_EditStands.j3 : Nat → ByteArray → List (S47) → ByteArray → List (S45) → List Int → Int → Int → List (S45) → Int → Int → Bool → Int → Int → Option (Bool)
  | 0, _, _, _, _, _, _, _, _, _, _, _, _, _ => none
  | k + 1, x0, x1, x5, x7, x8, x10, x12, x61, x62, x63, x132, x223000, x223001 => if x132 = true then (none) else (if x12 > 0 then (if 0 ≤ x12 then (if x12 < (x8.length : Int) then (if 0 ≤ (wrap64 (x12 - 1)) then (if (wrap64 (x12 - 1)) < (x8.length : Int) then (if (wrap64 (x12 - 1)) < (x7.length : Int) then (if (rd x8 x12) < (wrap64 ((wrap64 ((rd x8 (wrap64 (x12 - 1))) + ((rd_T45 x7 (wrap64 (x12 - 1))).f1))) - ((rd_T45 x7 (wrap64 (x12 - 1))).f0))) then (none) else (oriellaw02_EditStands.l0 k x0 x1 x5 x7 x8 (wrap64 ((wrap64 (x10 + x223001)) - x223000)) x223001 x61 x62 (wrap64 (x63 + 1)))) else (none)) else (none)) else (none)) else (none)) else (none)) else (oriellaw02_EditStands.l0 k x0 x1 x5 x7 x8 (wrap64 ((wrap64 (x10 + x223001)) - x223000)) x223001 x61 x62 (wrap64 (x63 + 1))))
def oriellaw02_EditStands.l1 : Nat → ByteArray → Int → Int → List (S47) → Int → Int → Option (Bool)
  | 0, _, _, _, _, _, _ => none
  | k + 1, x5, x10, x14, x171, x172, x173 => if x173 < x172 then (if 0 ≤ x173 then (if x173 < (x171.length : Int) then (oriellaw02_EditStands.l1 k x5 x10 (wrap64 (x14 + (((rd_T47 x171 x173).f2).size : Int))) x171 x172 (wrap64 (x173 + 1))) else (none)) else (none)) else (if (x5.size : Int) = (wrap64 (x10 + x14)) then ((oriellaw02_alive.f k).bind fun t233 => (some t233)) else (none))
end
def oriellaw02_EditStands.f (k : Nat) (a0 : ByteArray) (l1 : List (S47)) : Option (Bool) := if (a0.size : Int) > 2000 then (oriellaw02_EditStands.j0 k a0 l1 true) else ((oriellaw02_few.f k l1).bind fun t205 => (oriellaw02_EditStands.j0 k a0 l1 (!t205)))
theorem oriellaw02_EditStands.mono_l : ∀ k, (∀ y0 y1 y2, LeO (oriellaw02_EditStands.j0 k y0 y1 y2) (oriellaw02_EditStands.j0 (k + 1) y0 y1 y2)) ∧ (∀ y0 y1 y2 y3 y4 y5 y6 y7, LeO (oriellaw02_EditStands.j1 k y0 y1 y2 y3 y4 y5 y6 y7) (oriellaw02_EditStands.j1 (k + 1) y0 y1 y2 y3 y4 y5 y6 y7)) ∧ (∀ y0 y1 y2 y3 y4 y5 y6 y7 y8 y9, LeO (oriellaw02_EditStands.l0 k y0 y1 y2 y3 y4 y5 y6 y7 y8 y9) (oriellaw02_EditStands.l0 (k + 1) y0 y1 y2 y3 y4 y5 y6 y7 y8 y9)) ∧ (∀ y0 y1 y2 y3 y4 y5 y6 y7 y8 y9 y10 y11 y12, LeO (oriellaw02_EditStands.j3 k y0 y1 y2 y3 y4 y5 y6 y7 y8 y9 y10 y11 y12) (oriellaw02_EditStands.j3 (k + 1) y0 y1 y2 y3 y4 y5 y6 y7 y8 y9 y10 y11 y12)) ∧ (∀ y0 y1 y2 y3 y4 y5, LeO (oriellaw02_EditStands.l1 k y0 y1 y2 y3 y4 y5) (oriellaw02_EditStands.l1 (k + 1) y0 y1 y2 y3 y4 y5))
  | 0 => ⟨fun _ _ _ r h => by simp [oriellaw02_EditStands.j0] at h, fun _ _ _ _ _ _ _ _ r h => by simp [oriellaw02_EditStands.j1] at h, fun _ _ _ _ _ _ _ _ _ _ r h => by simp [oriellaw02_EditStands.l0] at h, fun _ _ _ _ _ _ _ _ _ _ _ _ _ r h => by simp [oriellaw02_EditStands.j3] at h, fun _ _ _ _ _ _ r h => by simp [oriellaw02_EditStands.l1] at h⟩
  | k + 1 => by
    obtain ⟨ih0, ih1, ih2, ih3, ih4⟩ := oriellaw02_EditStands.mono_l k
    refine ⟨?_, ?_, ?_, ?_, ?_⟩
    · intro y0 y1 y2
      unfold oriellaw02_EditStands.j0
      repeat' first
      | (with_reducible exact ih0 _ _ _)
      | (with_reducible exact ih1 _ _ _ _ _ _ _ _)
      | (with_reducible exact ih2 _ _ _ _ _ _ _ _ _ _)
      | (with_reducible exact ih3 _ _ _ _ _ _ _ _ _ _ _ _ _)
      | (with_reducible exact ih4 _ _ _ _ _ _)
      | (with_reducible exact edit_Apply.mono _ _ _)
      | (with_reducible exact edit_Kept.mono _ _ _)
      | (with_reducible exact oriellaw02_alive.mono _)
      | (with_reducible exact oriellaw02_few.mono _ _)
      | (with_reducible exact LeO.refl _)
      | (with_reducible exact LeO.none _)
      | (with_reducible refine LeO.ite ?_ ?_)
      | (with_reducible refine LeO.bind ?_ (fun _ => ?_))
      | exact ih0 _ _ _
      | exact ih1 _ _ _ _ _ _ _ _
      | exact ih2 _ _ _ _ _ _ _ _ _ _
      | exact ih3 _ _ _ _ _ _ _ _ _ _ _ _ _
      | exact ih4 _ _ _ _ _ _
      | exact edit_Apply.mono _ _ _
      | exact edit_Kept.mono _ _ _
      | exact oriellaw02_alive.mono _
      | exact oriellaw02_few.mono _ _
      | exact LeO.none _
      | refine LeO.ite ?_ ?_
      | refine LeO.bind ?_ (fun _ => ?_)
    · intro y0 y1 y2 y3 y4 y5 y6 y7
      unfold oriellaw02_EditStands.j1
      repeat' first
      | (with_reducible exact ih0 _ _ _)
      | (with_reducible exact ih1 _ _ _ _ _ _ _ _)
      | (with_reducible exact ih2 _ _ _ _ _ _ _ _ _ _)
      | (with_reducible exact ih3 _ _ _ _ _ _ _ _ _ _ _ _ _)
      | (with_reducible exact ih4 _ _ _ _ _ _)
      | (with_reducible exact edit_Apply.mono _ _ _)
      | (with_reducible exact edit_Kept.mono _ _ _)
      | (with_reducible exact oriellaw02_alive.mono _)
      | (with_reducible exact oriellaw02_few.mono _ _)
      | (with_reducible exact LeO.refl _)
      | (with_reducible exact LeO.none _)
      | (with_reducible refine LeO.ite ?_ ?_)
      | (with_reducible refine LeO.bind ?_ (fun _ => ?_))
      | exact ih0 _ _ _
      | exact ih1 _ _ _ _ _ _ _ _
      | exact ih2 _ _ _ _ _ _ _ _ _ _
      | exact ih3 _ _ _ _ _ _ _ _ _ _ _ _ _
      | exact ih4 _ _ _ _ _ _
      | exact edit_Apply.mono _ _ _
      | exact edit_Kept.mono _ _ _
      | exact oriellaw02_alive.mono _
      | exact oriellaw02_few.mono _ _
      | exact LeO.none _
      | refine LeO.ite ?_ ?_
      | refine LeO.bind ?_ (fun _ => ?_)
    · intro y0 y1 y2 y3 y4 y5 y6 y7 y8 y9
      unfold oriellaw02_EditStands.l0
      repeat' first
      | (with_reducible exact ih0 _ _ _)
      | (with_reducible exact ih1 _ _ _ _ _ _ _ _)
      | (with_reducible exact ih2 _ _ _ _ _ _ _ _ _ _)
      | (with_reducible exact ih3 _ _ _ _ _ _ _ _ _ _ _ _ _)
      | (with_reducible exact ih4 _ _ _ _ _ _)
      | (with_reducible exact edit_Apply.mono _ _ _)
      | (with_reducible exact edit_Kept.mono _ _ _)
      | (with_reducible exact oriellaw02_alive.mono _)
      | (with_reducible exact oriellaw02_few.mono _ _)
      | (with_reducible exact LeO.refl _)
      | (with_reducible exact LeO.none _)
      | (with_reducible refine LeO.ite ?_ ?_)
      | (with_reducible refine LeO.bind ?_ (fun _ => ?_))
      | exact ih0 _ _ _
      | exact ih1 _ _ _ _ _ _ _ _
      | exact ih2 _ _ _ _ _ _ _ _ _ _
      | exact ih3 _ _ _ _ _ _ _ _ _ _ _ _ _
      | exact ih4 _ _ _ _ _ _
      | exact edit_Apply.mono _ _ _
      | exact edit_Kept.mono _ _ _
      | exact oriellaw02_alive.mono _
      | exact oriellaw02_few.mono _ _
      | exact LeO.none _
      | refine LeO.ite ?_ ?_
      | refine LeO.bind ?_ (fun _ => ?_)
    · intro y0 y1 y2 y3 y4 y5 y6 y7 y8 y9 y10 y11 y12
      unfold oriellaw02_EditStands.j3
      repeat' first
      | (with_reducible exact ih0 _ _ _)
      | (with_reducible exact ih1 _ _ _ _ _ _ _ _)
      | (with_reducible exact ih2 _ _ _ _ _ _ _ _ _ _)
      | (with_reducible exact ih3 _ _ _ _ _ _ _ _ _ _ _ _ _)
      | (with_reducible exact ih4 _ _ _ _ _ _)
      | (with_reducible exact edit_Apply.mono _ _ _)
      | (with_reducible exact edit_Kept.mono _ _ _)
      | (with_reducible exact oriellaw02_alive.mono _)
      | (with_reducible exact oriellaw02_few.mono _ _)
      | (with_reducible exact LeO.refl _)
      | (with_reducible exact LeO.none _)
      | (with_reducible refine LeO.ite ?_ ?_)
      | (with_reducible refine LeO.bind ?_ (fun _ => ?_))
      | exact ih0 _ _ _
      | exact ih1 _ _ _ _ _ _ _ _
      | exact ih2 _ _ _ _ _ _ _ _ _ _
      | exact ih3 _ _ _ _ _ _ _ _ _ _ _ _ _
      | exact ih4 _ _ _ _ _ _
      | exact edit_Apply.mono _ _ _
      | exact edit_Kept.mono _ _ _
      | exact oriellaw02_alive.mono _
      | exact oriellaw02_few.mono _ _
      | exact LeO.none _
      | refine LeO.ite ?_ ?_
      | refine LeO.bind ?_ (fun _ => ?_)
    · intro y0 y1 y2 y3 y4 y5
      unfold oriellaw02_EditStands.l1
      repeat' first
      | (with_reducible exact ih0 _ _ _)
      | (with_reducible exact ih1 _ _ _ _ _ _ _ _)
      | (with_reducible exact ih2 _ _ _ _ _ _ _ _ _ _)
      | (with_reducible exact ih3 _ _ _ _ _ _ _ _ _ _ _ _ _)
      | (with_reducible exact ih4 _ _ _ _ _ _)
      | (with_reducible exact edit_Apply.mono _ _ _)
      | (with_reducible exact edit_Kept.mono _ _ _)
      | (with_reducible exact oriellaw02_alive.mono _)
      | (with_reducible exact oriellaw02_few.mono _ _)
      | (with_reducible exact LeO.refl _)
      | (with_reducible exact LeO.none _)
      | (with_reducible refine LeO.ite ?_ ?_)
      | (with_reducible refine LeO.bind ?_ (fun _ => ?_))
      | exact ih0 _ _ _
      | exact ih1 _ _ _ _ _ _ _ _
      | exact ih2 _ _ _ _ _ _ _ _ _ _
      | exact ih3 _ _ _ _ _ _ _ _ _ _ _ _ _
      | exact ih4 _ _ _ _ _ _
      | exact edit_Apply.mono _ _ _
      | exact edit_Kept.mono _ _ _
      | exact oriellaw02_alive.mono _
      | exact oriellaw02_few.mono _ _
      | exact LeO.none _
      | refine LeO.ite ?_ ?_
      | refine LeO.bind ?_ (fun _ => ?_)
theorem oriellaw02_EditStands.mono : ∀ a0 a1 k, LeO (oriellaw02_EditStands.f k a0 a1) (oriellaw02_EditStands.f (k + 1) a0 a1) := by
  intro a0 a1 k
  obtain ⟨ih0, ih1, ih2, ih3, ih4⟩ := oriellaw02_EditStands.mono_l k
  unfold oriellaw02_EditStands.f
  repeat' first
      | (with_reducible exact ih0 _ _ _)
      | (with_reducible exact ih1 _ _ _ _ _ _ _ _)
      | (with_reducible exact ih2 _ _ _ _ _ _ _ _ _ _)
      | (with_reducible exact ih3 _ _ _ _ _ _ _ _ _ _ _ _ _)
      | (with_reducible exact ih4 _ _ _ _ _ _)
      | (with_reducible exact edit_Apply.mono _ _ _)
      | (with_reducible exact edit_Kept.mono _ _ _)
      | (with_reducible exact oriellaw02_alive.mono _)
      | (with_reducible exact oriellaw02_few.mono _ _)
      | (with_reducible exact LeO.refl _)
      | (with_reducible exact LeO.none _)
      | (with_reducible refine LeO.ite ?_ ?_)
      | (with_reducible refine LeO.bind ?_ (fun _ => ?_))
      | exact ih0 _ _ _
      | exact ih1 _ _ _ _ _ _ _ _
      | exact ih2 _ _ _ _ _ _ _ _ _ _
      | exact ih3 _ _ _ _ _ _ _ _ _ _ _ _ _
      | exact ih4 _ _ _ _ _ _
      | exact edit_Apply.mono _ _ _
      | exact edit_Kept.mono _ _ _
      | exact oriellaw02_alive.mono _
      | exact oriellaw02_few.mono _ _
      | exact LeO.none _
      | refine LeO.ite ?_ ?_
      | refine LeO.bind ?_ (fun _ => ?_)
set_option maxHeartbeats 8000000 in
set_option maxRecDepth 100000 in
theorem oriellaw02_EditStands.calls (k : Nat) (a0 : ByteArray) (A1 : Option Addr) (c1 : Nat) (l1 : List (S47)) (r : Bool) (w : World) (hr1 : Kd.C k47 w A1 l1.length l1) (hc1 : l1.length ≤ c1) (h : oriellaw02_EditStands.f k a0 l1 = some r) :
    Calls Try.prog 5 #[.string a0, .slice A1 l1.length c1] w fun e w' => e = .returned (.bool r) ∧ Below w.heap.size w w' := by
  have hu45 := Try.underlying45
  have hu47 := Try.underlying47
  have HR1 := Aside0.mk hr1
  have HC1 := Aside0.mk hc1
  clear hr1 hc1
  have HB := Aside0.mk (Below.refl w.heap.size w)
  have H : (if (a0.size : Int) > 2000 then (oriellaw02_EditStands.j0 k a0 l1 true) else ((oriellaw02_few.f k l1).bind fun t205 => (oriellaw02_EditStands.j0 k a0 l1 (!t205)))) = some r := h
  clear h
  have HC3 := Aside0.mk H
  clear H
  go_enter Try.func5, Try.ntmps5
  go_upto_region 1 with (fail)
  repeat (go_quiet (fail); go_upto_region 1 with (fail))
  go_cut [24] (fun v24 wc => ∃ (kq : Nat) (x24_2 : Bool), v24 = .bool x24_2 ∧ Aside0 (oriellaw02_EditStands.j0 kq a0 l1 x24_2 = some r) ∧ Aside0 (kq ≤ k) ∧ Aside0 (Below w.heap.size w wc))
  case first =>
    have H := HC3.out
    clear HC3
    by_cases c4 : (a0.size : Int) > 2000
    · rw [if_pos c4] at H
      have c4b0 : decide (2000 < (a0.size : Int)) = true := decide_eq_true c4
      have c4b1 : decide (2000 < a0.size) = true := decide_eq_true (by omega)
      clear c4
      (first | rw [c4b0] | (simp only [i64_w, i32_w]; rw [c4b0]) | skip)
      have H' := Aside0.mk H
      clear H
      go_wp2
      repeat (go_quiet (fail); try go_wp2)
      go_meet
      case rel => exact ⟨_, (true), (by first | rfl | (simp; done) | (simp [*]; done)), H', ⟨by first | omega | exact Nat.le_refl _⟩, ⟨by repeat (first | (with_reducible first | exact HB.out | apply below_alloc | apply pw_below_drewN | apply below_drew1) | exact HB.out)⟩⟩
    · rw [if_neg c4] at H
      have c4b0 : decide (2000 < (a0.size : Int)) = false := decide_eq_false c4
      have c4b1 : decide (2000 < a0.size) = false := decide_eq_false (by omega)
      clear c4
      (first | rw [c4b0] | (simp only [i64_w, i32_w]; rw [c4b0]) | skip)
      replace H := Option.bind_eq_some_iff.mp H
      obtain ⟨t205, A50, H⟩ := H
      replace H : (oriellaw02_EditStands.j0 k a0 l1 (!t205)) = some r := H
      have A5 := Aside0.mk A50
      clear A50
      have H' := Aside0.mk H
      clear H
      go_wp2_with (first | (go_at_call 9; (with_reducible refine (oriellaw02_few.calls k _ _ l1 t205 _ ?side1 ?side2 A5.out).mono ?_); (case side1 => repeat (first | exact (Kd.C_below HR1.out HB.out) | (with_reducible refine Kd.C_alloc ?_ _) | (with_reducible refine Kd.C_drewN ?_ _) | (with_reducible refine Kd.C_drew ?_))); (case side2 => exact HC1.out); rintro e w6 ⟨rfl, hb⟩; have n0_ := Aside0.mk (below_step (by repeat (first | (with_reducible first | exact HB.out | apply below_alloc | apply pw_below_drewN | apply below_drew1) | exact HB.out)) hb); clear HB; have HB := n0_; clear n0_; (try clear hb); (try clear hb2); (try clear hk); (try clear hi)))
      repeat (go_quiet (first | (go_at_call 9; (with_reducible refine (oriellaw02_few.calls k _ _ l1 t205 _ ?side1 ?side2 A5.out).mono ?_); (case side1 => repeat (first | exact (Kd.C_below HR1.out HB.out) | (with_reducible refine Kd.C_alloc ?_ _) | (with_reducible refine Kd.C_drewN ?_ _) | (with_reducible refine Kd.C_drew ?_))); (case side2 => exact HC1.out); rintro e w6 ⟨rfl, hb⟩; have n0_ := Aside0.mk (below_step (by repeat (first | (with_reducible first | exact HB.out | apply below_alloc | apply pw_below_drewN | apply below_drew1) | exact HB.out)) hb); clear HB; have HB := n0_; clear n0_; (try clear hb); (try clear hb2); (try clear hk); (try clear hi))); try go_wp2_with (first | (go_at_call 9; (with_reducible refine (oriellaw02_few.calls k _ _ l1 t205 _ ?side1 ?side2 A5.out).mono ?_); (case side1 => repeat (first | exact (Kd.C_below HR1.out HB.out) | (with_reducible refine Kd.C_alloc ?_ _) | (with_reducible refine Kd.C_drewN ?_ _) | (with_reducible refine Kd.C_drew ?_))); (case side2 => exact HC1.out); rintro e w6 ⟨rfl, hb⟩; have n0_ := Aside0.mk (below_step (by repeat (first | (with_reducible first | exact HB.out | apply below_alloc | apply pw_below_drewN | apply below_drew1) | exact HB.out)) hb); clear HB; have HB := n0_; clear n0_; (try clear hb); (try clear hb2); (try clear hk); (try clear hi))))
      go_meet
      case rel => exact ⟨_, (!t205), (by first | rfl | (simp; done) | (simp [*]; done)), H', ⟨by first | omega | exact Nat.le_refl _⟩, ⟨by repeat (first | (with_reducible first | exact HB.out | apply below_alloc | apply pw_below_drewN | apply below_drew1) | exact HB.out)⟩⟩
  case rest =>
    clear HC3
    try clear c1
    try clear p2
    try clear c4
    try clear c4b0
    try clear c4b1
    try clear c5
    obtain ⟨kq, x24_2, rfl, HA, HJ2, HB⟩ := hcut
    cases kq with
    | zero => exact absurd HA.out (by simp [oriellaw02_EditStands.j0])
    | succ kj2 =>
      have H := HA.out
      clear HA
      simp only [oriellaw02_EditStands.j0] at H
      by_cases c7 : x24_2 = true
      · subst c7
        have H1 : ((oriellaw02_alive.f kj2).bind fun t206 => (some t206)) = some r := by rw [if_pos rfl] at H; exact H
        clear H
        have H := H1
        clear H1
        replace H := Option.bind_eq_some_iff.mp H
        obtain ⟨t206, A80, H⟩ := H
        replace H : (some t206) = some r := H
        have A8 := Aside0.mk A80
        clear A80
        obtain rfl := Option.some.inj H
        go_wp2_with (first | (go_at_call 10; (with_reducible refine (oriellaw02_alive.calls kj2  t206 _ A8.out).mono ?_); rintro e w9 ⟨rfl, hb⟩; have n0_ := Aside0.mk (below_step (by repeat (first | (with_reducible first | exact HB.out | apply below_alloc | apply pw_below_drewN | apply below_drew1) | exact HB.out)) hb); clear HB; have HB := n0_; clear n0_; (try clear hb); (try clear hb2); (try clear hk); (try clear hi)))
        repeat (go_quiet (first | (go_at_call 10; (with_reducible refine (oriellaw02_alive.calls kj2  t206 _ A8.out).mono ?_); rintro e w9 ⟨rfl, hb⟩; have n0_ := Aside0.mk (below_step (by repeat (first | (with_reducible first | exact HB.out | apply below_alloc | apply pw_below_drewN | apply below_drew1) | exact HB.out)) hb); clear HB; have HB := n0_; clear n0_; (try clear hb); (try clear hb2); (try clear hk); (try clear hi))); try go_wp2_with (first | (go_at_call 10; (with_reducible refine (oriellaw02_alive.calls kj2  t206 _ A8.out).mono ?_); rintro e w9 ⟨rfl, hb⟩; have n0_ := Aside0.mk (below_step (by repeat (first | (with_reducible first | exact HB.out | apply below_alloc | apply pw_below_drewN | apply below_drew1) | exact HB.out)) hb); clear HB; have HB := n0_; clear n0_; (try clear hb); (try clear hb2); (try clear hk); (try clear hi))))
        go_ret
        exact ⟨by first | rfl | (simp [errW_none, errW_some] <;> rfl) | (simp [*, errW_none, errW_some] <;> rfl), by repeat (first | (with_reducible first | exact HB.out | apply below_alloc | apply pw_below_drewN | apply below_drew1) | exact HB.out)⟩
      · replace c7 := Bool.eq_false_iff.mpr c7
        subst c7
        have H1 : ((edit_Apply.f kj2 a0 l1).bind fun bt207 => ((edit_Kept.f kj2 (a0.size : Int) l1).bind fun bt209 => ((oriellaw01_No.f bt207.2).bind fun t216 => (if t216 = 0 then ((oriellaw01_No.f bt209.2.2).bind fun t217 => (oriellaw02_EditStands.j1 kj2 a0 l1 bt207.1 bt207.2 bt209.1 bt209.2.1 bt209.2.2 (t217 != 0))) else (oriellaw02_EditStands.j1 kj2 a0 l1 bt207.1 bt207.2 bt209.1 bt209.2.1 bt209.2.2 true))))) = some r := by rw [if_neg (show ¬ (false = true) by decide)] at H; exact H
        clear H
        have H := H1
        clear H1
        replace H := Option.bind_eq_some_iff.mp H
        obtain ⟨⟨t207, t208⟩, A100, H⟩ := H
        replace H : ((edit_Kept.f kj2 (a0.size : Int) l1).bind fun bt209 => ((oriellaw01_No.f t208).bind fun t216 => (if t216 = 0 then ((oriellaw01_No.f bt209.2.2).bind fun t217 => (oriellaw02_EditStands.j1 kj2 a0 l1 t207 t208 bt209.1 bt209.2.1 bt209.2.2 (t217 != 0))) else (oriellaw02_EditStands.j1 kj2 a0 l1 t207 t208 bt209.1 bt209.2.1 bt209.2.2 true)))) = some r := H
        have A10 := Aside0.mk A100
        clear A100
        replace H := Option.bind_eq_some_iff.mp H
        obtain ⟨⟨t209, t210, t211⟩, A110, H⟩ := H
        replace H : ((oriellaw01_No.f t208).bind fun t216 => (if t216 = 0 then ((oriellaw01_No.f t211).bind fun t217 => (oriellaw02_EditStands.j1 kj2 a0 l1 t207 t208 t209 t210 t211 (t217 != 0))) else (oriellaw02_EditStands.j1 kj2 a0 l1 t207 t208 t209 t210 t211 true))) = some r := H
        have A11 := Aside0.mk A110
        clear A110
        have HC12 := Aside0.mk H
        clear H
        go_upto_region 5 with (first | (go_at_call 18; (with_reducible refine (edit_Apply.calls kj2 a0 _ _ l1 t207 t208 _ ?side1 ?side2 A10.out).mono ?_); (case side1 => repeat (first | exact (Kd.C_below HR1.out HB.out) | (with_reducible refine Kd.C_alloc ?_ _) | (with_reducible refine Kd.C_drewN ?_ _) | (with_reducible refine Kd.C_drew ?_))); (case side2 => exact HC1.out); rintro e w13 ⟨rfl, hb⟩; have n0_ := Aside0.mk (below_step (by repeat (first | (with_reducible first | exact HB.out | apply below_alloc | apply pw_below_drewN | apply below_drew1) | exact HB.out)) hb); clear HB; have HB := n0_; clear n0_; (try clear hb); (try clear hb2); (try clear hk); (try clear hi)) | (go_at_call 11; (with_reducible refine (edit_Kept.calls kj2 (a0.size : Int) _ _ l1 t209 t210 t211 _ ?side1 ?side2 A11.out).mono ?_); (case side1 => repeat (first | exact (Kd.C_below HR1.out HB.out) | (with_reducible refine Kd.C_alloc ?_ _) | (with_reducible refine Kd.C_drewN ?_ _) | (with_reducible refine Kd.C_drew ?_))); (case side2 => exact HC1.out); rintro e w14 ⟨v212, v214, rfl, ho0, ho1, hb⟩; have n0_ := Aside0.mk (Kd.R_lower ho0 (below_size (by repeat (first | (with_reducible first | exact HB.out | apply below_alloc | apply pw_below_drewN | apply below_drew1) | exact HB.out)))); have n1_ := Aside0.mk (Kd.R_lower ho1 (below_size (by repeat (first | (with_reducible first | exact HB.out | apply below_alloc | apply pw_below_drewN | apply below_drew1) | exact HB.out)))); have n2_ := Aside0.mk (below_step (by repeat (first | (with_reducible first | exact HB.out | apply below_alloc | apply pw_below_drewN | apply below_drew1) | exact HB.out)) hb); clear HB; have HO213 := n0_; have HO215 := n1_; have HB := n2_; clear n0_ n1_ n2_; (try clear hb); (try clear hb2); (try clear hk); (try clear hi); (try clear ho0); (try clear ho1)))
        repeat (go_quiet (first | (go_at_call 18; (with_reducible refine (edit_Apply.calls kj2 a0 _ _ l1 t207 t208 _ ?side1 ?side2 A10.out).mono ?_); (case side1 => repeat (first | exact (Kd.C_below HR1.out HB.out) | (with_reducible refine Kd.C_alloc ?_ _) | (with_reducible refine Kd.C_drewN ?_ _) | (with_reducible refine Kd.C_drew ?_))); (case side2 => exact HC1.out); rintro e w13 ⟨rfl, hb⟩; have n0_ := Aside0.mk (below_step (by repeat (first | (with_reducible first | exact HB.out | apply below_alloc | apply pw_below_drewN | apply below_drew1) | exact HB.out)) hb); clear HB; have HB := n0_; clear n0_; (try clear hb); (try clear hb2); (try clear hk); (try clear hi)) | (go_at_call 11; (with_reducible refine (edit_Kept.calls kj2 (a0.size : Int) _ _ l1 t209 t210 t211 _ ?side1 ?side2 A11.out).mono ?_); (case side1 => repeat (first | exact (Kd.C_below HR1.out HB.out) | (with_reducible refine Kd.C_alloc ?_ _) | (with_reducible refine Kd.C_drewN ?_ _) | (with_reducible refine Kd.C_drew ?_))); (case side2 => exact HC1.out); rintro e w14 ⟨v212, v214, rfl, ho0, ho1, hb⟩; have n0_ := Aside0.mk (Kd.R_lower ho0 (below_size (by repeat (first | (with_reducible first | exact HB.out | apply below_alloc | apply pw_below_drewN | apply below_drew1) | exact HB.out)))); have n1_ := Aside0.mk (Kd.R_lower ho1 (below_size (by repeat (first | (with_reducible first | exact HB.out | apply below_alloc | apply pw_below_drewN | apply below_drew1) | exact HB.out)))); have n2_ := Aside0.mk (below_step (by repeat (first | (with_reducible first | exact HB.out | apply below_alloc | apply pw_below_drewN | apply below_drew1) | exact HB.out)) hb); clear HB; have HO213 := n0_; have HO215 := n1_; have HB := n2_; clear n0_ n1_ n2_; (try clear hb); (try clear hb2); (try clear hk); (try clear hi); (try clear ho0); (try clear ho1))); go_upto_region 5 with (first | (go_at_call 18; (with_reducible refine (edit_Apply.calls kj2 a0 _ _ l1 t207 t208 _ ?side1 ?side2 A10.out).mono ?_); (case side1 => repeat (first | exact (Kd.C_below HR1.out HB.out) | (with_reducible refine Kd.C_alloc ?_ _) | (with_reducible refine Kd.C_drewN ?_ _) | (with_reducible refine Kd.C_drew ?_))); (case side2 => exact HC1.out); rintro e w13 ⟨rfl, hb⟩; have n0_ := Aside0.mk (below_step (by repeat (first | (with_reducible first | exact HB.out | apply below_alloc | apply pw_below_drewN | apply below_drew1) | exact HB.out)) hb); clear HB; have HB := n0_; clear n0_; (try clear hb); (try clear hb2); (try clear hk); (try clear hi)) | (go_at_call 11; (with_reducible refine (edit_Kept.calls kj2 (a0.size : Int) _ _ l1 t209 t210 t211 _ ?side1 ?side2 A11.out).mono ?_); (case side1 => repeat (first | exact (Kd.C_below HR1.out HB.out) | (with_reducible refine Kd.C_alloc ?_ _) | (with_reducible refine Kd.C_drewN ?_ _) | (with_reducible refine Kd.C_drew ?_))); (case side2 => exact HC1.out); rintro e w14 ⟨v212, v214, rfl, ho0, ho1, hb⟩; have n0_ := Aside0.mk (Kd.R_lower ho0 (below_size (by repeat (first | (with_reducible first | exact HB.out | apply below_alloc | apply pw_below_drewN | apply below_drew1) | exact HB.out)))); have n1_ := Aside0.mk (Kd.R_lower ho1 (below_size (by repeat (first | (with_reducible first | exact HB.out | apply below_alloc | apply pw_below_drewN | apply below_drew1) | exact HB.out)))); have n2_ := Aside0.mk (below_step (by repeat (first | (with_reducible first | exact HB.out | apply below_alloc | apply pw_below_drewN | apply below_drew1) | exact HB.out)) hb); clear HB; have HO213 := n0_; have HO215 := n1_; have HB := n2_; clear n0_ n1_ n2_; (try clear hb); (try clear hb2); (try clear hk); (try clear hi); (try clear ho0); (try clear ho1))))
        (try simp only [Act.put, List.setIfInBounds_toArray, List.set_cons_zero, List.set_cons_succ])
        go_cut [47] (fun v47 wc => ∃ (kq : Nat) (x47_11 : Bool), v47 = .bool x47_11 ∧ Aside0 (oriellaw02_EditStands.j1 kq a0 l1 t207 t208 t209 t210 t211 x47_11 = some r) ∧ Aside0 (kq ≤ kj2) ∧ Aside0 (Kd.R k45 45 wc w.heap.size (fun _ => True) v212 t209) ∧ Aside0 (Kd.R (Kd.int .i64) 3 wc w.heap.size (fun _ => True) v214 t210) ∧ Aside0 (Below w.heap.size w wc))
        case first =>
          have H := HC12.out
          clear HC12
          replace H := Option.bind_eq_some_iff.mp H
          obtain ⟨t216, A150, H⟩ := H
          replace H : (if t216 = 0 then ((oriellaw01_No.f t211).bind fun t217 => (oriellaw02_EditStands.j1 kj2 a0 l1 t207 t208 t209 t210 t211 (t217 != 0))) else (oriellaw02_EditStands.j1 kj2 a0 l1 t207 t208 t209 t210 t211 true)) = some r := H
          have A15 := Aside0.mk A150
          clear A150
          by_cases c16 : t216 = 0
          · rw [if_pos c16] at H
            have c16b0 : (t216 == 0) = true := beq_iff_eq.mpr c16
            have c16b1 : (t216 != 0) = false := bne_eq_false_iff_eq.mpr c16
            clear c16
            (first | rw [c16b0] | (simp only [i64_w, i32_w]; rw [c16b0]) | skip)
            replace H := Option.bind_eq_some_iff.mp H
            obtain ⟨t217, A170, H⟩ := H
            replace H : (oriellaw02_EditStands.j1 kj2 a0 l1 t207 t208 t209 t210 t211 (t217 != 0)) = some r := H
            have A17 := Aside0.mk A170
            clear A170
            have H' := Aside0.mk H
            clear H
            go_wp2_with (first | (go_at_call 17; (with_reducible refine (oriellaw01_No.calls t208 t216 _ A15.out).mono ?_); rintro e w' ⟨rfl, ⟨nd, rfl⟩⟩; (try first | exact ⟨rfl, _, World.drewN_drewN _ _ _⟩ | exact ⟨rfl, _, Eq.trans (World.drewN_drewN _ _ _) (congrArg (World.drewN _) (Nat.add_assoc _ _ _))⟩)) | (go_at_call 17; (with_reducible refine (oriellaw01_No.calls t211 t217 _ A17.out).mono ?_); rintro e w' ⟨rfl, ⟨nd, rfl⟩⟩; (try first | exact ⟨rfl, _, World.drewN_drewN _ _ _⟩ | exact ⟨rfl, _, Eq.trans (World.drewN_drewN _ _ _) (congrArg (World.drewN _) (Nat.add_assoc _ _ _))⟩)))
            repeat (go_quiet (first | (go_at_call 17; (with_reducible refine (oriellaw01_No.calls t208 t216 _ A15.out).mono ?_); rintro e w' ⟨rfl, ⟨nd, rfl⟩⟩; (try first | exact ⟨rfl, _, World.drewN_drewN _ _ _⟩ | exact ⟨rfl, _, Eq.trans (World.drewN_drewN _ _ _) (congrArg (World.drewN _) (Nat.add_assoc _ _ _))⟩)) | (go_at_call 17; (with_reducible refine (oriellaw01_No.calls t211 t217 _ A17.out).mono ?_); rintro e w' ⟨rfl, ⟨nd, rfl⟩⟩; (try first | exact ⟨rfl, _, World.drewN_drewN _ _ _⟩ | exact ⟨rfl, _, Eq.trans (World.drewN_drewN _ _ _) (congrArg (World.drewN _) (Nat.add_assoc _ _ _))⟩))); try go_wp2_with (first | (go_at_call 17; (with_reducible refine (oriellaw01_No.calls t208 t216 _ A15.out).mono ?_); rintro e w' ⟨rfl, ⟨nd, rfl⟩⟩; (try first | exact ⟨rfl, _, World.drewN_drewN _ _ _⟩ | exact ⟨rfl, _, Eq.trans (World.drewN_drewN _ _ _) (congrArg (World.drewN _) (Nat.add_assoc _ _ _))⟩)) | (go_at_call 17; (with_reducible refine (oriellaw01_No.calls t211 t217 _ A17.out).mono ?_); rintro e w' ⟨rfl, ⟨nd, rfl⟩⟩; (try first | exact ⟨rfl, _, World.drewN_drewN _ _ _⟩ | exact ⟨rfl, _, Eq.trans (World.drewN_drewN _ _ _) (congrArg (World.drewN _) (Nat.add_assoc _ _ _))⟩))))
            go_meet
            case rel => exact ⟨_, ((t217 != 0)), (by first | rfl | (simp; done) | (simp [*]; done)), H', ⟨by have := HJ2.out; first | omega | exact Nat.le_refl _⟩, ⟨by (with_reducible repeat (first | apply Kd.R_alloc | apply Kd.R_drewN | apply Kd.R_drew)); exact HO213.out⟩, ⟨by (with_reducible repeat (first | apply Kd.R_alloc | apply Kd.R_drewN | apply Kd.R_drew)); exact HO215.out⟩, ⟨by repeat (first | (with_reducible first | exact HB.out | apply below_alloc | apply pw_below_drewN | apply below_drew1) | exact HB.out)⟩⟩
          · rw [if_neg c16] at H
            have c16b0 : (t216 == 0) = false := beq_eq_false_iff_ne.mpr c16
            have c16b1 : (t216 != 0) = true := bne_iff_ne.mpr c16
            (first | rw [c16b0] | (simp only [i64_w, i32_w]; rw [c16b0]) | skip)
            have H' := Aside0.mk H
            clear H
            go_wp2_with (first | (go_at_call 17; (with_reducible refine (oriellaw01_No.calls t208 t216 _ A15.out).mono ?_); rintro e w' ⟨rfl, ⟨nd, rfl⟩⟩; (try first | exact ⟨rfl, _, World.drewN_drewN _ _ _⟩ | exact ⟨rfl, _, Eq.trans (World.drewN_drewN _ _ _) (congrArg (World.drewN _) (Nat.add_assoc _ _ _))⟩)))
            repeat (go_quiet (first | (go_at_call 17; (with_reducible refine (oriellaw01_No.calls t208 t216 _ A15.out).mono ?_); rintro e w' ⟨rfl, ⟨nd, rfl⟩⟩; (try first | exact ⟨rfl, _, World.drewN_drewN _ _ _⟩ | exact ⟨rfl, _, Eq.trans (World.drewN_drewN _ _ _) (congrArg (World.drewN _) (Nat.add_assoc _ _ _))⟩))); try go_wp2_with (first | (go_at_call 17; (with_reducible refine (oriellaw01_No.calls t208 t216 _ A15.out).mono ?_); rintro e w' ⟨rfl, ⟨nd, rfl⟩⟩; (try first | exact ⟨rfl, _, World.drewN_drewN _ _ _⟩ | exact ⟨rfl, _, Eq.trans (World.drewN_drewN _ _ _) (congrArg (World.drewN _) (Nat.add_assoc _ _ _))⟩))))
            go_meet
            case rel => exact ⟨_, (true), (by first | rfl | (simp; done) | (simp [*]; done)), H', ⟨by have := HJ2.out; first | omega | exact Nat.le_refl _⟩, ⟨by (with_reducible repeat (first | apply Kd.R_alloc | apply Kd.R_drewN | apply Kd.R_drew)); exact HO213.out⟩, ⟨by (with_reducible repeat (first | apply Kd.R_alloc | apply Kd.R_drewN | apply Kd.R_drew)); exact HO215.out⟩, ⟨by repeat (first | (with_reducible first | exact HB.out | apply below_alloc | apply pw_below_drewN | apply below_drew1) | exact HB.out)⟩⟩
        case rest =>
          clear HC12
          try clear c1
          try clear p2
          try clear c4
          try clear c4b0
          try clear c4b1
          try clear c5
          try clear c7
          try clear c16
          try clear c16b0
          try clear c16b1
          try clear p2
          obtain ⟨kq, x47_11, rfl, HA, HJ11, HO_7, HO_8, HB⟩ := hcut
          cases kq with
          | zero => exact absurd HA.out (by simp [oriellaw02_EditStands.j1])
          | succ kj11 =>
            have H := HA.out
            clear HA
            simp only [oriellaw02_EditStands.j1] at H
            by_cases c18 : x47_11 = true
            · subst c18
              have H1 : ((oriellaw01_No.f t208).bind fun t218 => ((oriellaw01_No.f t211).bind fun t219 => (if t218 = t219 then ((oriellaw02_alive.f kj11).bind fun t220 => (some t220)) else (none)))) = some r := by rw [if_pos rfl] at H; exact H
              clear H
              have H := H1
              clear H1
              replace H := Option.bind_eq_some_iff.mp H
              obtain ⟨t218, A190, H⟩ := H
              replace H : ((oriellaw01_No.f t211).bind fun t219 => (if t218 = t219 then ((oriellaw02_alive.f kj11).bind fun t220 => (some t220)) else (none))) = some r := H
              have A19 := Aside0.mk A190
              clear A190
              replace H := Option.bind_eq_some_iff.mp H
              obtain ⟨t219, A200, H⟩ := H
              replace H : (if t218 = t219 then ((oriellaw02_alive.f kj11).bind fun t220 => (some t220)) else (none)) = some r := H
              have A20 := Aside0.mk A200
              clear A200
              by_cases c21 : t218 = t219
              · rw [if_pos c21] at H
                have c21b0 : (t218 == t219) = true := beq_iff_eq.mpr c21
                have c21b1 : (t218 != t219) = false := bne_eq_false_iff_eq.mpr c21
                clear c21
                replace H := Option.bind_eq_some_iff.mp H
                obtain ⟨t220, A220, H⟩ := H
                replace H : (some t220) = some r := H
                have A22 := Aside0.mk A220
                clear A220
                obtain rfl := Option.some.inj H
                go_wp2_with (first | (go_at_call 17; (with_reducible refine (oriellaw01_No.calls t208 t218 _ A19.out).mono ?_); rintro e w' ⟨rfl, ⟨nd, rfl⟩⟩; (try first | exact ⟨rfl, _, World.drewN_drewN _ _ _⟩ | exact ⟨rfl, _, Eq.trans (World.drewN_drewN _ _ _) (congrArg (World.drewN _) (Nat.add_assoc _ _ _))⟩)) | (go_at_call 17; (with_reducible refine (oriellaw01_No.calls t211 t219 _ A20.out).mono ?_); rintro e w' ⟨rfl, ⟨nd, rfl⟩⟩; (try first | exact ⟨rfl, _, World.drewN_drewN _ _ _⟩ | exact ⟨rfl, _, Eq.trans (World.drewN_drewN _ _ _) (congrArg (World.drewN _) (Nat.add_assoc _ _ _))⟩)) | (go_at_call 10; (with_reducible refine (oriellaw02_alive.calls kj11  t220 _ A22.out).mono ?_); rintro e w23 ⟨rfl, hb⟩; have n0_ := Aside0.mk (Kd.R_below (by (with_reducible repeat (first | apply Kd.R_alloc | apply Kd.R_drewN | apply Kd.R_drew)); exact HO_7.out) hb); have n1_ := Aside0.mk (Kd.R_below (by (with_reducible repeat (first | apply Kd.R_alloc | apply Kd.R_drewN | apply Kd.R_drew)); exact HO_8.out) hb); have n2_ := Aside0.mk (below_step (by repeat (first | (with_reducible first | exact HB.out | apply below_alloc | apply pw_below_drewN | apply below_drew1) | exact HB.out)) hb); clear HO_7; clear HO_8; clear HB; have HO_7 := n0_; have HO_8 := n1_; have HB := n2_; clear n0_ n1_ n2_; (try clear hb); (try clear hb2); (try clear hk); (try clear hi)))
                repeat (go_quiet (first | (go_at_call 17; (with_reducible refine (oriellaw01_No.calls t208 t218 _ A19.out).mono ?_); rintro e w' ⟨rfl, ⟨nd, rfl⟩⟩; (try first | exact ⟨rfl, _, World.drewN_drewN _ _ _⟩ | exact ⟨rfl, _, Eq.trans (World.drewN_drewN _ _ _) (congrArg (World.drewN _) (Nat.add_assoc _ _ _))⟩)) | (go_at_call 17; (with_reducible refine (oriellaw01_No.calls t211 t219 _ A20.out).mono ?_); rintro e w' ⟨rfl, ⟨nd, rfl⟩⟩; (try first | exact ⟨rfl, _, World.drewN_drewN _ _ _⟩ | exact ⟨rfl, _, Eq.trans (World.drewN_drewN _ _ _) (congrArg (World.drewN _) (Nat.add_assoc _ _ _))⟩)) | (go_at_call 10; (with_reducible refine (oriellaw02_alive.calls kj11  t220 _ A22.out).mono ?_); rintro e w23 ⟨rfl, hb⟩; have n0_ := Aside0.mk (Kd.R_below (by (with_reducible repeat (first | apply Kd.R_alloc | apply Kd.R_drewN | apply Kd.R_drew)); exact HO_7.out) hb); have n1_ := Aside0.mk (Kd.R_below (by (with_reducible repeat (first | apply Kd.R_alloc | apply Kd.R_drewN | apply Kd.R_drew)); exact HO_8.out) hb); have n2_ := Aside0.mk (below_step (by repeat (first | (with_reducible first | exact HB.out | apply below_alloc | apply pw_below_drewN | apply below_drew1) | exact HB.out)) hb); clear HO_7; clear HO_8; clear HB; have HO_7 := n0_; have HO_8 := n1_; have HB := n2_; clear n0_ n1_ n2_; (try clear hb); (try clear hb2); (try clear hk); (try clear hi))); try go_wp2_with (first | (go_at_call 17; (with_reducible refine (oriellaw01_No.calls t208 t218 _ A19.out).mono ?_); rintro e w' ⟨rfl, ⟨nd, rfl⟩⟩; (try first | exact ⟨rfl, _, World.drewN_drewN _ _ _⟩ | exact ⟨rfl, _, Eq.trans (World.drewN_drewN _ _ _) (congrArg (World.drewN _) (Nat.add_assoc _ _ _))⟩)) | (go_at_call 17; (with_reducible refine (oriellaw01_No.calls t211 t219 _ A20.out).mono ?_); rintro e w' ⟨rfl, ⟨nd, rfl⟩⟩; (try first | exact ⟨rfl, _, World.drewN_drewN _ _ _⟩ | exact ⟨rfl, _, Eq.trans (World.drewN_drewN _ _ _) (congrArg (World.drewN _) (Nat.add_assoc _ _ _))⟩)) | (go_at_call 10; (with_reducible refine (oriellaw02_alive.calls kj11  t220 _ A22.out).mono ?_); rintro e w23 ⟨rfl, hb⟩; have n0_ := Aside0.mk (Kd.R_below (by (with_reducible repeat (first | apply Kd.R_alloc | apply Kd.R_drewN | apply Kd.R_drew)); exact HO_7.out) hb); have n1_ := Aside0.mk (Kd.R_below (by (with_reducible repeat (first | apply Kd.R_alloc | apply Kd.R_drewN | apply Kd.R_drew)); exact HO_8.out) hb); have n2_ := Aside0.mk (below_step (by repeat (first | (with_reducible first | exact HB.out | apply below_alloc | apply pw_below_drewN | apply below_drew1) | exact HB.out)) hb); clear HO_7; clear HO_8; clear HB; have HO_7 := n0_; have HO_8 := n1_; have HB := n2_; clear n0_ n1_ n2_; (try clear hb); (try clear hb2); (try clear hk); (try clear hi))))
                go_ret
                exact ⟨by first | rfl | (simp [errW_none, errW_some] <;> rfl) | (simp [*, errW_none, errW_some] <;> rfl), by repeat (first | (with_reducible first | exact HB.out | apply below_alloc | apply pw_below_drewN | apply below_drew1) | exact HB.out)⟩
              · rw [if_neg c21] at H
                exact absurd H (by simp)
            · replace c18 := Bool.eq_false_iff.mpr c18
              subst c18
              have H1 : (if (t209.length : Int) = (t210.length : Int) then (oriellaw02_EditStands.l0 kj11 a0 l1 t207 t209 t210 0 0 t209 (t209.length : Int) 0) else (none)) = some r := by rw [if_neg (show ¬ (false = true) by decide)] at H; exact H
              clear H
              have H := H1
              clear H1
              by_cases c24 : (t209.length : Int) = (t210.length : Int)
              · rw [if_pos c24] at H
                have c24b0 : ((t209.length : Int) == (t210.length : Int)) = true := beq_iff_eq.mpr c24
                have c24b1 : ((t209.length : Int) != (t210.length : Int)) = false := bne_eq_false_iff_eq.mpr c24
                have c24b2 : (t209.length == t210.length) = true := by first | simpa using c24 | (simp at c24 ⊢; omega)
                clear c24
                have H' := Aside0.mk H
                clear H
                obtain ⟨Ao25, co25, eo25⟩ := Kd.R_slice HO_7.out
                subst eo25
                obtain ⟨Ao26, co26, eo26⟩ := Kd.R_slice HO_8.out
                subst eo26
                go_wp2
                repeat (go_quiet (fail); try go_wp2)
                go_loopg [10, 11, 63] kj11 (fun kq v10 v11 v63 w' => ∃ (x10_3 : Int) (x11_3 : Int) (x63_3 : Int), v10 = .int .i64 x10_3 ∧ v11 = .int .i64 x11_3 ∧ v63 = .int .i64 x63_3 ∧ Aside0 (oriellaw02_EditStands.l0 kq a0 l1 t207 t209 t210 x10_3 x11_3 t209 (t209.length : Int) x63_3 = some r) ∧ Aside0 (kq ≤ kj11) ∧ Aside0 (Kd.R k45 45 w' w.heap.size (fun _ => True) (.slice Ao25 t209.length co25) t209) ∧ Aside0 (Kd.R (Kd.int .i64) 3 w' w.heap.size (fun _ => True) (.slice Ao26 t210.length co26) t210) ∧ Aside0 (Kd.R k45 45 w' w.heap.size (fun _ => True) (.slice Ao25 t209.length co25) t209) ∧ Aside0 (Below w.heap.size w w'))
                case atStart => exact ⟨(0), (0), (0), (by first | rfl | (simp; done) | (simp [*]; done)), (by first | rfl | (simp; done) | (simp [*]; done)), (by first | rfl | (simp; done) | (simp [*]; done)), H', ⟨Nat.le_refl _⟩, ⟨by (with_reducible repeat (first | apply Kd.R_alloc | apply Kd.R_drewN | apply Kd.R_drew)); exact HO_7.out⟩, ⟨by (with_reducible repeat (first | apply Kd.R_alloc | apply Kd.R_drewN | apply Kd.R_drew)); exact HO_8.out⟩, ⟨by (with_reducible repeat (first | apply Kd.R_alloc | apply Kd.R_drewN | apply Kd.R_drew)); exact HO_7.out⟩, ⟨by repeat (first | (with_reducible first | exact HB.out | apply below_alloc | apply pw_below_drewN | apply below_drew1) | exact HB.out)⟩⟩
                case round =>
                  clear H'
                  try clear c1
                  try clear c2
                  try clear p2
                  try clear c4
                  try clear c4b0
                  try clear c4b1
                  try clear c5
                  try clear c7
                  try clear c16
                  try clear c16b0
                  try clear c16b1
                  try clear c18
                  try clear c21
                  try clear c21b0
                  try clear c21b1
                  try clear c24
                  try clear c24b0
                  try clear c24b1
                  try clear c24b2
                  try clear p2
                  obtain ⟨x10_3, x11_3, x63_3, rfl, rfl, rfl, HA, HK3, HO_7, HO_8, HO_61, HB⟩ := hrel
                  cases gk with
                  | zero => exact absurd HA.out (by simp [oriellaw02_EditStands.l0])
                  | succ k3 =>
                    have H := HA.out
                    clear HA
                    simp only [oriellaw02_EditStands.l0] at H
                    by_cases c27 : x63_3 < (t209.length : Int)
                    · rw [if_pos c27] at H
                      have c27b0 : decide (x63_3 < (t209.length : Int)) = true := decide_eq_true c27
                      clear c27
                      by_cases c28 : 0 ≤ x63_3
                      · rw [if_pos c28] at H
                        have c28b0 : decide (0 ≤ x63_3) = true := decide_eq_true c28
                        clear c28
                        by_cases c29 : x63_3 < (t209.length : Int)
                        · rw [if_pos c29] at H
                          have c29b0 : decide (x63_3 < (t209.length : Int)) = true := decide_eq_true c29
                          clear c29
                          have HC30 := Aside0.mk H
                          clear H
                          have p221 : 0 ≤ (x63_3 : Int) := of_decide_eq_true (by first | (with_reducible assumption) | assumption)
                          have q221 : x63_3 < (t209.length : Int) := of_decide_eq_true (by first | (with_reducible assumption) | assumption)
                          obtain ⟨ad221, e221, hx221_0, hx221_1⟩ := at_T45 (Kd.R_reads' HO_61.out).2.2 x63_3 p221 q221
                          cases e221
                          replace p221 := eq_true p221
                          replace q221 := eq_true q221
                          go_upto_region 13 with (first | ((with_reducible refine gate_dst (N := 13) rfl ?_); (try (refine gate_guard (by rfl) ?_; dsimp only)); refine box_event ?hg (N := 13) ?hd (cs := #[.int .i64 0, .int .i64 0]) (t := 45) ?hr ?_; (case hd => rfl); (case hg => rfl); (case hr => first | (go_simp; done) | (go_simp; rfl)); intro gb222 hg w31 hbox hb; have n0_ := Aside0.mk (Kd.R_below (Kd.R_elderB (by (with_reducible repeat (first | apply Kd.R_alloc | apply Kd.R_drewN | apply Kd.R_drew)); exact HO_7.out) gb222 (Nat.le_of_eq hg.symm)) hb); have n1_ := Aside0.mk (Kd.R_below (by (with_reducible repeat (first | apply Kd.R_alloc | apply Kd.R_drewN | apply Kd.R_drew)); exact HO_8.out) hb); have n2_ := Aside0.mk (Kd.R_below (Kd.R_elderB (by (with_reducible repeat (first | apply Kd.R_alloc | apply Kd.R_drewN | apply Kd.R_drew)); exact HO_61.out) gb222 (Nat.le_of_eq hg.symm)) hb); have n3_ := Aside0.mk (below_step (by repeat (first | (with_reducible first | exact HB.out | apply below_alloc | apply pw_below_drewN | apply below_drew1) | exact HB.out)) hb); have n4_ := Aside0.mk (hbox); have n5_ := Aside0.mk ((by rw [hg]; exact (below_size (by repeat (first | (with_reducible first | exact HB.out | apply below_alloc | apply pw_below_drewN | apply below_drew1) | exact HB.out))) : w.heap.size ≤ gb222)); have n6_ := Aside0.mk ((by rw [hg]; exact (below_size (by repeat (first | (with_reducible first | exact HB.out | apply below_alloc | apply pw_below_drewN | apply below_drew1) | exact HB.out))) : w.heap.size ≤ gb222)); clear HO_7; clear HO_8; clear HO_61; clear HB; have HO_7 := n0_; have HO_8 := n1_; have HO_61 := n2_; have HB := n3_; have BK222 := n4_; have GW222 := n5_; have GE222 := n6_; clear n0_ n1_ n2_ n3_ n4_ n5_ n6_; clear hb hbox hg; have hcz32_0 : w31.cell? ⟨gb222, 0, none⟩ = some (.int .i64 0) := (blk_cell BK222.out 0).trans rfl; have hcz32_1 : w31.cell? ⟨gb222, 1, none⟩ = some (.int .i64 0) := (blk_cell BK222.out 1).trans rfl; have hfz32_0 := blk_frozen BK222.out 0; have hfz32_1 := blk_frozen BK222.out 1))
                          repeat (go_quiet (first | ((with_reducible refine gate_dst (N := 13) rfl ?_); (try (refine gate_guard (by rfl) ?_; dsimp only)); refine box_event ?hg (N := 13) ?hd (cs := #[.int .i64 0, .int .i64 0]) (t := 45) ?hr ?_; (case hd => rfl); (case hg => rfl); (case hr => first | (go_simp; done) | (go_simp; rfl)); intro gb222 hg w31 hbox hb; have n0_ := Aside0.mk (Kd.R_below (Kd.R_elderB (by (with_reducible repeat (first | apply Kd.R_alloc | apply Kd.R_drewN | apply Kd.R_drew)); exact HO_7.out) gb222 (Nat.le_of_eq hg.symm)) hb); have n1_ := Aside0.mk (Kd.R_below (by (with_reducible repeat (first | apply Kd.R_alloc | apply Kd.R_drewN | apply Kd.R_drew)); exact HO_8.out) hb); have n2_ := Aside0.mk (Kd.R_below (Kd.R_elderB (by (with_reducible repeat (first | apply Kd.R_alloc | apply Kd.R_drewN | apply Kd.R_drew)); exact HO_61.out) gb222 (Nat.le_of_eq hg.symm)) hb); have n3_ := Aside0.mk (below_step (by repeat (first | (with_reducible first | exact HB.out | apply below_alloc | apply pw_below_drewN | apply below_drew1) | exact HB.out)) hb); have n4_ := Aside0.mk (hbox); have n5_ := Aside0.mk ((by rw [hg]; exact (below_size (by repeat (first | (with_reducible first | exact HB.out | apply below_alloc | apply pw_below_drewN | apply below_drew1) | exact HB.out))) : w.heap.size ≤ gb222)); have n6_ := Aside0.mk ((by rw [hg]; exact (below_size (by repeat (first | (with_reducible first | exact HB.out | apply below_alloc | apply pw_below_drewN | apply below_drew1) | exact HB.out))) : w.heap.size ≤ gb222)); clear HO_7; clear HO_8; clear HO_61; clear HB; have HO_7 := n0_; have HO_8 := n1_; have HO_61 := n2_; have HB := n3_; have BK222 := n4_; have GW222 := n5_; have GE222 := n6_; clear n0_ n1_ n2_ n3_ n4_ n5_ n6_; clear hb hbox hg; have hcz32_0 : w31.cell? ⟨gb222, 0, none⟩ = some (.int .i64 0) := (blk_cell BK222.out 0).trans rfl; have hcz32_1 : w31.cell? ⟨gb222, 1, none⟩ = some (.int .i64 0) := (blk_cell BK222.out 1).trans rfl; have hfz32_0 := blk_frozen BK222.out 0; have hfz32_1 := blk_frozen BK222.out 1)); go_upto_region 13 with (first | ((with_reducible refine gate_dst (N := 13) rfl ?_); (try (refine gate_guard (by rfl) ?_; dsimp only)); refine box_event ?hg (N := 13) ?hd (cs := #[.int .i64 0, .int .i64 0]) (t := 45) ?hr ?_; (case hd => rfl); (case hg => rfl); (case hr => first | (go_simp; done) | (go_simp; rfl)); intro gb222 hg w31 hbox hb; have n0_ := Aside0.mk (Kd.R_below (Kd.R_elderB (by (with_reducible repeat (first | apply Kd.R_alloc | apply Kd.R_drewN | apply Kd.R_drew)); exact HO_7.out) gb222 (Nat.le_of_eq hg.symm)) hb); have n1_ := Aside0.mk (Kd.R_below (by (with_reducible repeat (first | apply Kd.R_alloc | apply Kd.R_drewN | apply Kd.R_drew)); exact HO_8.out) hb); have n2_ := Aside0.mk (Kd.R_below (Kd.R_elderB (by (with_reducible repeat (first | apply Kd.R_alloc | apply Kd.R_drewN | apply Kd.R_drew)); exact HO_61.out) gb222 (Nat.le_of_eq hg.symm)) hb); have n3_ := Aside0.mk (below_step (by repeat (first | (with_reducible first | exact HB.out | apply below_alloc | apply pw_below_drewN | apply below_drew1) | exact HB.out)) hb); have n4_ := Aside0.mk (hbox); have n5_ := Aside0.mk ((by rw [hg]; exact (below_size (by repeat (first | (with_reducible first | exact HB.out | apply below_alloc | apply pw_below_drewN | apply below_drew1) | exact HB.out))) : w.heap.size ≤ gb222)); have n6_ := Aside0.mk ((by rw [hg]; exact (below_size (by repeat (first | (with_reducible first | exact HB.out | apply below_alloc | apply pw_below_drewN | apply below_drew1) | exact HB.out))) : w.heap.size ≤ gb222)); clear HO_7; clear HO_8; clear HO_61; clear HB; have HO_7 := n0_; have HO_8 := n1_; have HO_61 := n2_; have HB := n3_; have BK222 := n4_; have GW222 := n5_; have GE222 := n6_; clear n0_ n1_ n2_ n3_ n4_ n5_ n6_; clear hb hbox hg; have hcz32_0 : w31.cell? ⟨gb222, 0, none⟩ = some (.int .i64 0) := (blk_cell BK222.out 0).trans rfl; have hcz32_1 : w31.cell? ⟨gb222, 1, none⟩ = some (.int .i64 0) := (blk_cell BK222.out 1).trans rfl; have hfz32_0 := blk_frozen BK222.out 0; have hfz32_1 := blk_frozen BK222.out 1)))
                          (try simp only [Act.put, List.setIfInBounds_toArray, List.set_cons_zero, List.set_cons_succ])
                          go_cut [132] (fun v132 wc => ∃ (kq : Nat) (x132_29 : Bool), v132 = .bool x132_29 ∧ Aside0 (oriellaw02_EditStands.j3 kq a0 l1 t207 t209 t210 x10_3 x63_3 t209 (t209.length : Int) x63_3 x132_29 ((rd_T45 t209 x63_3).f0) ((rd_T45 t209 x63_3).f1) = some r) ∧ Aside0 (kq ≤ k3) ∧ Aside0 (Kd.R k45 45 wc w.heap.size (fun k_ => k_ ≠ gb222) (.slice (some ad221) t209.length co25) t209) ∧ Aside0 (Kd.R (Kd.int .i64) 3 wc w.heap.size (fun _ => True) (.slice Ao26 t210.length co26) t210) ∧ Aside0 (Kd.R k45 45 wc w.heap.size (fun k_ => k_ ≠ gb222) (.slice (some ad221) t209.length co25) t209) ∧ Aside0 (wc.heap[gb222]? = some (.cells #[.int .i64 ((rd_T45 t209 x63_3).f0), .int .i64 ((rd_T45 t209 x63_3).f1)] 45 (0, 0))) ∧ Aside0 (Below w.heap.size w wc))
                          case first =>
                            have H := HC30.out
                            clear HC30
                            by_cases c33 : ((rd_T45 t209 x63_3).f0) < x11_3
                            · rw [if_pos c33] at H
                              exact absurd H (by simp)
                            · rw [if_neg c33] at H
                              have c33b0 : decide (((rd_T45 t209 x63_3).f0) < x11_3) = false := decide_eq_false c33
                              clear c33
                              (first | rw [c33b0] | (simp only [i64_w, i32_w]; rw [c33b0]) | skip)
                              by_cases c34 : ((rd_T45 t209 x63_3).f1) ≤ ((rd_T45 t209 x63_3).f0)
                              · rw [if_pos c34] at H
                                exact absurd H (by simp)
                              · rw [if_neg c34] at H
                                have c34b0 : decide (((rd_T45 t209 x63_3).f1) ≤ ((rd_T45 t209 x63_3).f0)) = false := decide_eq_false c34
                                clear c34
                                by_cases c35 : ((rd_T45 t209 x63_3).f1) > (a0.size : Int)
                                · rw [if_pos c35] at H
                                  exact absurd H (by simp)
                                · rw [if_neg c35] at H
                                  have c35b0 : decide ((a0.size : Int) < ((rd_T45 t209 x63_3).f1)) = false := decide_eq_false c35
                                  clear c35
                                  by_cases c36 : x63_3 < (t210.length : Int)
                                  · rw [if_pos c36] at H
                                    have c36b0 : decide (x63_3 < (t210.length : Int)) = true := decide_eq_true c36
                                    clear c36
                                    by_cases c37 : (rd t210 x63_3) < 0
                                    · rw [if_pos c37] at H
                                      exact absurd H (by simp)
                                    · rw [if_neg c37] at H
                                      have c37b0 : decide ((rd t210 x63_3) < 0) = false := decide_eq_false c37
                                      clear c37
                                      by_cases c38 : (wrap64 ((wrap64 ((rd t210 x63_3) + ((rd_T45 t209 x63_3).f1))) - ((rd_T45 t209 x63_3).f0))) > (t207.size : Int)
                                      · rw [if_pos c38] at H
                                        exact absurd H (by simp)
                                      · rw [if_neg c38] at H
                                        have c38b0 : decide ((t207.size : Int) < (wrap64 ((wrap64 ((rd t210 x63_3) + ((rd_T45 t209 x63_3).f1))) - ((rd_T45 t209 x63_3).f0)))) = false := decide_eq_false c38
                                        clear c38
                                        by_cases c39 : 0 ≤ ((rd_T45 t209 x63_3).f0)
                                        · rw [if_pos c39] at H
                                          have c39b0 := eq_true c39
                                          have c39b1 : decide (0 ≤ ((rd_T45 t209 x63_3).f0)) = true := decide_eq_true c39
                                          clear c39
                                          by_cases c40 : ((rd_T45 t209 x63_3).f0) ≤ ((rd_T45 t209 x63_3).f1)
                                          · rw [if_pos c40] at H
                                            have c40b0 := eq_true c40
                                            have c40b1 : decide (((rd_T45 t209 x63_3).f0) ≤ ((rd_T45 t209 x63_3).f1)) = true := decide_eq_true c40
                                            clear c40
                                            by_cases c41 : ((rd_T45 t209 x63_3).f1) ≤ (a0.size : Int)
                                            · rw [if_pos c41] at H
                                              have c41b0 := eq_true c41
                                              have c41b1 : decide (((rd_T45 t209 x63_3).f1) ≤ (a0.size : Int)) = true := decide_eq_true c41
                                              clear c41
                                              by_cases c42 : 0 ≤ (rd t210 x63_3)
                                              · rw [if_pos c42] at H
                                                have c42b0 := eq_true c42
                                                have c42b1 : decide (0 ≤ (rd t210 x63_3)) = true := decide_eq_true c42
                                                clear c42
                                                by_cases c43 : (rd t210 x63_3) ≤ (wrap64 ((wrap64 ((rd t210 x63_3) + ((rd_T45 t209 x63_3).f1))) - ((rd_T45 t209 x63_3).f0)))
                                                · rw [if_pos c43] at H
                                                  have c43b0 := eq_true c43
                                                  have c43b1 : decide ((rd t210 x63_3) ≤ (wrap64 ((wrap64 ((rd t210 x63_3) + ((rd_T45 t209 x63_3).f1))) - ((rd_T45 t209 x63_3).f0)))) = true := decide_eq_true c43
                                                  by_cases c44 : (wrap64 ((wrap64 ((rd t210 x63_3) + ((rd_T45 t209 x63_3).f1))) - ((rd_T45 t209 x63_3).f0))) ≤ (t207.size : Int)
                                                  · rw [if_pos c44] at H
                                                    have c44b0 := eq_true c44
                                                    have c44b1 : decide ((wrap64 ((wrap64 ((rd t210 x63_3) + ((rd_T45 t209 x63_3).f1))) - ((rd_T45 t209 x63_3).f0))) ≤ (t207.size : Int)) = true := decide_eq_true c44
                                                    have H' := Aside0.mk H
                                                    clear H
                                                    have hcz45_0 : w31.cell? ⟨gb222, 0, none⟩ = some (.int .i64 0) := (blk_cell BK222.out 0).trans rfl
                                                    have hcz45_1 : w31.cell? ⟨gb222, 1, none⟩ = some (.int .i64 0) := (blk_cell BK222.out 1).trans rfl
                                                    have hfz45_0 := blk_frozen BK222.out 0
                                                    have hfz45_1 := blk_frozen BK222.out 1
                                                    have p223 : 0 ≤ (x63_3 : Int) := of_decide_eq_true (by first | (with_reducible assumption) | assumption)
                                                    have q223 : x63_3 < (t210.length : Int) := of_decide_eq_true (by first | (with_reducible assumption) | assumption)
                                                    obtain ⟨ad223, e223, hx223_0⟩ := Kd.at_int (Kd.R_reads' HO_8.out).2.2 x63_3 p223 q223
                                                    cases e223
                                                    have hn223_0 : ad223.block ≠ gb222 := Kd.own_blk (Kd.R_ne HO_8.out BK222.out (by decide))
                                                    have hn223_1 : ad223.block ≠ gb222 := Kd.own_blk (Kd.R_ne HO_8.out BK222.out (by decide))
                                                    replace hx223_0 := (cell_far (p := ⟨gb222, 0, none⟩) (by first | (rw [add_block]; exact hn223_0) | (show (Addr.add _ _).block ≠ _; rw [add_block]; exact hn223_0) | exact hn223_0) (.int .i64 ((rd_T45 t209 x63_3).f0))).trans hx223_0
                                                    replace hx223_0 := (cell_far (p := ⟨gb222, 1, none⟩) (by first | (rw [add_block]; exact hn223_1) | (show (Addr.add _ _).block ≠ _; rw [add_block]; exact hn223_1) | exact hn223_1) (.int .i64 ((rd_T45 t209 x63_3).f1))).trans hx223_0
                                                    (try have hy223_0 := fun (n_ : Nat) => (show ((((w31.drewN n_).setCell ⟨gb222, 0, none⟩ (.int .i64 ((rd_T45 t209 x63_3).f0))).setCell ⟨gb222, 1, none⟩ (.int .i64 ((rd_T45 t209 x63_3).f1)))).cell? _ = some _ from hx223_0))
                                                    clear hn223_0
                                                    clear hn223_1
                                                    replace p223 := eq_true p223
                                                    replace q223 := eq_true q223
                                                    have p224 : 0 ≤ (x63_3 : Int) := of_decide_eq_true (by first | (with_reducible assumption) | assumption)
                                                    have q224 : x63_3 < (t210.length : Int) := of_decide_eq_true (by first | (with_reducible assumption) | assumption)
                                                    obtain ⟨ad224, e224, hx224_0⟩ := Kd.at_int (Kd.R_reads' HO_8.out).2.2 x63_3 p224 q224
                                                    obtain rfl : ad223 = ad224 := (by injection e224)
                                                    have hn224_0 : ad223.block ≠ gb222 := Kd.own_blk (Kd.R_ne HO_8.out BK222.out (by decide))
                                                    have hn224_1 : ad223.block ≠ gb222 := Kd.own_blk (Kd.R_ne HO_8.out BK222.out (by decide))
                                                    replace hx224_0 := (cell_far (p := ⟨gb222, 0, none⟩) (by first | (rw [add_block]; exact hn224_0) | (show (Addr.add _ _).block ≠ _; rw [add_block]; exact hn224_0) | exact hn224_0) (.int .i64 ((rd_T45 t209 x63_3).f0))).trans hx224_0
                                                    replace hx224_0 := (cell_far (p := ⟨gb222, 1, none⟩) (by first | (rw [add_block]; exact hn224_1) | (show (Addr.add _ _).block ≠ _; rw [add_block]; exact hn224_1) | exact hn224_1) (.int .i64 ((rd_T45 t209 x63_3).f1))).trans hx224_0
                                                    (try have hy224_0 := fun (n_ : Nat) => (show ((((w31.drewN n_).setCell ⟨gb222, 0, none⟩ (.int .i64 ((rd_T45 t209 x63_3).f0))).setCell ⟨gb222, 1, none⟩ (.int .i64 ((rd_T45 t209 x63_3).f1)))).cell? _ = some _ from hx224_0))
                                                    clear hn224_0
                                                    clear hn224_1
                                                    replace p224 := eq_true p224
                                                    replace q224 := eq_true q224
                                                    have p225 : 0 ≤ (x63_3 : Int) := of_decide_eq_true (by first | (with_reducible assumption) | assumption)
                                                    have q225 : x63_3 < (t210.length : Int) := of_decide_eq_true (by first | (with_reducible assumption) | assumption)
                                                    obtain ⟨ad225, e225, hx225_0⟩ := Kd.at_int (Kd.R_reads' HO_8.out).2.2 x63_3 p225 q225
                                                    obtain rfl : ad223 = ad225 := (by injection e225)
                                                    have hn225_0 : ad223.block ≠ gb222 := Kd.own_blk (Kd.R_ne HO_8.out BK222.out (by decide))
                                                    have hn225_1 : ad223.block ≠ gb222 := Kd.own_blk (Kd.R_ne HO_8.out BK222.out (by decide))
                                                    replace hx225_0 := (cell_far (p := ⟨gb222, 0, none⟩) (by first | (rw [add_block]; exact hn225_0) | (show (Addr.add _ _).block ≠ _; rw [add_block]; exact hn225_0) | exact hn225_0) (.int .i64 ((rd_T45 t209 x63_3).f0))).trans hx225_0
                                                    replace hx225_0 := (cell_far (p := ⟨gb222, 1, none⟩) (by first | (rw [add_block]; exact hn225_1) | (show (Addr.add _ _).block ≠ _; rw [add_block]; exact hn225_1) | exact hn225_1) (.int .i64 ((rd_T45 t209 x63_3).f1))).trans hx225_0
                                                    (try have hy225_0 := fun (n_ : Nat) => (show ((((w31.drewN n_).setCell ⟨gb222, 0, none⟩ (.int .i64 ((rd_T45 t209 x63_3).f0))).setCell ⟨gb222, 1, none⟩ (.int .i64 ((rd_T45 t209 x63_3).f1)))).cell? _ = some _ from hx225_0))
                                                    clear hn225_0
                                                    clear hn225_1
                                                    replace p225 := eq_true p225
                                                    replace q225 := eq_true q225
                                                    have p226 : 0 ≤ (x63_3 : Int) := of_decide_eq_true (by first | (with_reducible assumption) | assumption)
                                                    have q226 : x63_3 < (t210.length : Int) := of_decide_eq_true (by first | (with_reducible assumption) | assumption)
                                                    obtain ⟨ad226, e226, hx226_0⟩ := Kd.at_int (Kd.R_reads' HO_8.out).2.2 x63_3 p226 q226
                                                    obtain rfl : ad223 = ad226 := (by injection e226)
                                                    have hn226_0 : ad223.block ≠ gb222 := Kd.own_blk (Kd.R_ne HO_8.out BK222.out (by decide))
                                                    have hn226_1 : ad223.block ≠ gb222 := Kd.own_blk (Kd.R_ne HO_8.out BK222.out (by decide))
                                                    replace hx226_0 := (cell_far (p := ⟨gb222, 0, none⟩) (by first | (rw [add_block]; exact hn226_0) | (show (Addr.add _ _).block ≠ _; rw [add_block]; exact hn226_0) | exact hn226_0) (.int .i64 ((rd_T45 t209 x63_3).f0))).trans hx226_0
                                                    replace hx226_0 := (cell_far (p := ⟨gb222, 1, none⟩) (by first | (rw [add_block]; exact hn226_1) | (show (Addr.add _ _).block ≠ _; rw [add_block]; exact hn226_1) | exact hn226_1) (.int .i64 ((rd_T45 t209 x63_3).f1))).trans hx226_0
                                                    (try have hy226_0 := fun (n_ : Nat) => (show ((((w31.drewN n_).setCell ⟨gb222, 0, none⟩ (.int .i64 ((rd_T45 t209 x63_3).f0))).setCell ⟨gb222, 1, none⟩ (.int .i64 ((rd_T45 t209 x63_3).f1)))).cell? _ = some _ from hx226_0))
                                                    clear hn226_0
                                                    clear hn226_1
                                                    replace p226 := eq_true p226
                                                    replace q226 := eq_true q226
                                                    go_wp2
                                                    repeat (go_quiet (fail); try go_wp2)
                                                    go_meet
                                                    case rel => exact ⟨_, (((a0.extract (((rd_T45 t209 x63_3).f0) : Int).toNat (((rd_T45 t209 x63_3).f1) : Int).toNat).toList != (t207.extract ((rd t210 x63_3) : Int).toNat ((wrap64 ((wrap64 ((rd t210 x63_3) + ((rd_T45 t209 x63_3).f1))) - ((rd_T45 t209 x63_3).f0))) : Int).toNat).toList)), (by first | rfl | (simp; done) | (simp [*]; done)), H', ⟨by have := HJ2.out; have := HJ11.out; have := HK3.out; first | omega | exact Nat.le_refl _⟩, ⟨by (with_reducible repeat (first | apply Kd.R_alloc | apply Kd.R_drewN | apply Kd.R_drew)); exact Kd.R_mono (Kd.R_far (p := ⟨gb222, 1, none⟩) (Kd.R_far (p := ⟨gb222, 0, none⟩) (Kd.R_mono HO_7.out (fun k_ hk => (⟨hk, hk.2⟩ : _ ∧ k_ ≠ gb222))) (fun _ hk => hk.2) (.int .i64 ((rd_T45 t209 x63_3).f0))) (fun _ hk => hk.2) (.int .i64 ((rd_T45 t209 x63_3).f1))) (fun _ hk => hk.1.2)⟩, ⟨by (with_reducible repeat (first | apply Kd.R_alloc | apply Kd.R_drewN | apply Kd.R_drew)); exact Kd.R_mono (Kd.R_far (p := ⟨gb222, 1, none⟩) (Kd.R_far (p := ⟨gb222, 0, none⟩) (Kd.R_types HO_8.out BK222.out (by decide)) (fun _ hk => hk.2) (.int .i64 ((rd_T45 t209 x63_3).f0))) (fun _ hk => hk.2) (.int .i64 ((rd_T45 t209 x63_3).f1))) (fun _ hk => trivial)⟩, ⟨by (with_reducible repeat (first | apply Kd.R_alloc | apply Kd.R_drewN | apply Kd.R_drew)); exact Kd.R_mono (Kd.R_far (p := ⟨gb222, 1, none⟩) (Kd.R_far (p := ⟨gb222, 0, none⟩) (Kd.R_mono HO_61.out (fun k_ hk => (⟨hk, hk.2⟩ : _ ∧ k_ ≠ gb222))) (fun _ hk => hk.2) (.int .i64 ((rd_T45 t209 x63_3).f0))) (fun _ hk => hk.2) (.int .i64 ((rd_T45 t209 x63_3).f1))) (fun _ hk => hk.1.2)⟩, ⟨by (with_reducible repeat (first | refine blk_drewN ?_ _ | refine blk_drew ?_ | refine blk_alloc ?_ _)); refine blk_put (cs := #[.int .i64 ((rd_T45 t209 x63_3).f0), .int .i64 0]) ?_ 1 _ rfl; (with_reducible repeat (first | refine blk_drewN ?_ _ | refine blk_drew ?_ | refine blk_alloc ?_ _)); refine blk_put (cs := #[.int .i64 0, .int .i64 0]) ?_ 0 _ rfl; (with_reducible repeat (first | refine blk_drewN ?_ _ | refine blk_drew ?_ | refine blk_alloc ?_ _)); exact BK222.out⟩, ⟨by repeat (first | (with_reducible first | exact HB.out | apply below_alloc | apply pw_below_drewN | apply below_drew1 | refine below_set ?_ GE222.out) | exact HB.out)⟩⟩
                                                  · rw [if_neg c44] at H
                                                    exact absurd H (by simp)
                                                · rw [if_neg c43] at H
                                                  exact absurd H (by simp)
                                              · rw [if_neg c42] at H
                                                exact absurd H (by simp)
                                            · rw [if_neg c41] at H
                                              exact absurd H (by simp)
                                          · rw [if_neg c40] at H
                                            exact absurd H (by simp)
                                        · rw [if_neg c39] at H
                                          exact absurd H (by simp)
                                  · rw [if_neg c36] at H
                                    exact absurd H (by simp)
                          case rest =>
                            clear HC30
                            try clear c1
                            try clear c2
                            try clear p2
                            try clear q2
                            try clear hx2
                            try clear c3
                            try clear c4
                            try clear c4b0
                            try clear c4b1
                            try clear c5
                            try clear p6
                            try clear c7
                            try clear c16
                            try clear c16b0
                            try clear c16b1
                            try clear c18
                            try clear c21
                            try clear c21b0
                            try clear c21b1
                            try clear p22
                            try clear q22
                            try clear hx22
                            try clear c24
                            try clear c24b0
                            try clear c24b1
                            try clear c24b2
                            try clear c27
                            try clear c27b0
                            try clear c28
                            try clear c28b0
                            try clear c29
                            try clear c29b0
                            try clear c33
                            try clear c33b0
                            try clear c34
                            try clear c34b0
                            try clear c35
                            try clear c35b0
                            try clear c36
                            try clear c36b0
                            try clear c37
                            try clear c37b0
                            try clear c38
                            try clear c38b0
                            try clear c39
                            try clear c39b0
                            try clear c39b1
                            try clear c40
                            try clear c40b0
                            try clear c40b1
                            try clear c41
                            try clear c41b0
                            try clear c41b1
                            try clear c42
                            try clear c42b0
                            try clear c42b1
                            try clear c43
                            try clear c43b0
                            try clear c43b1
                            try clear c44
                            try clear c44b0
                            try clear c44b1
                            try clear hcz32_0
                            try clear hcz32_1
                            try clear hcz45_0
                            try clear hcz45_1
                            try clear hfz32_0
                            try clear hfz32_1
                            try clear hfz45_0
                            try clear hfz45_1
                            try clear hx221_0
                            try clear hx221_1
                            try clear hx223_0
                            try clear hx224_0
                            try clear hx225_0
                            try clear hx226_0
                            try clear p2
                            try clear p221
                            try clear p223
                            try clear p224
                            try clear p225
                            try clear p226
                            try clear q221
                            try clear q223
                            try clear q224
                            try clear q225
                            try clear q226
                            obtain ⟨kq, x132_29, rfl, HA, HJ29, HO_7, HO_8, HO_61, BK222, HB⟩ := hcut
                            cases kq with
                            | zero => exact absurd HA.out (by simp [oriellaw02_EditStands.j3])
                            | succ kj29 =>
                              have H := HA.out
                              clear HA
                              simp only [oriellaw02_EditStands.j3] at H
                              by_cases c46 : x132_29 = true
                              · subst c46
                                have H1 : (none) = some r := by rw [if_pos rfl] at H; exact H
                                clear H
                                have H := H1
                                clear H1
                                exact absurd H (by simp)
                              · replace c46 := Bool.eq_false_iff.mpr c46
                                subst c46
                                have H1 : (if x63_3 > 0 then (if 0 ≤ x63_3 then (if x63_3 < (t210.length : Int) then (if 0 ≤ (wrap64 (x63_3 - 1)) then (if (wrap64 (x63_3 - 1)) < (t210.length : Int) then (if (wrap64 (x63_3 - 1)) < (t209.length : Int) then (if (rd t210 x63_3) < (wrap64 ((wrap64 ((rd t210 (wrap64 (x63_3 - 1))) + ((rd_T45 t209 (wrap64 (x63_3 - 1))).f1))) - ((rd_T45 t209 (wrap64 (x63_3 - 1))).f0))) then (none) else (oriellaw02_EditStands.l0 kj29 a0 l1 t207 t209 t210 (wrap64 ((wrap64 (x10_3 + ((rd_T45 t209 x63_3).f1))) - ((rd_T45 t209 x63_3).f0))) ((rd_T45 t209 x63_3).f1) t209 (t209.length : Int) (wrap64 (x63_3 + 1)))) else (none)) else (none)) else (none)) else (none)) else (none)) else (oriellaw02_EditStands.l0 kj29 a0 l1 t207 t209 t210 (wrap64 ((wrap64 (x10_3 + ((rd_T45 t209 x63_3).f1))) - ((rd_T45 t209 x63_3).f0))) ((rd_T45 t209 x63_3).f1) t209 (t209.length : Int) (wrap64 (x63_3 + 1)))) = some r := by rw [if_neg (show ¬ (false = true) by decide)] at H; exact H
                                clear H
                                have H := H1
                                clear H1
                                by_cases c47 : x63_3 > 0
                                · rw [if_pos c47] at H
                                  have c47b0 : decide (0 < x63_3) = true := decide_eq_true c47
                                  clear c47
                                  by_cases c48 : 0 ≤ x63_3
                                  · rw [if_pos c48] at H
                                    have c48b0 : decide (0 ≤ x63_3) = true := decide_eq_true c48
                                    clear c48
                                    by_cases c49 : x63_3 < (t210.length : Int)
                                    · rw [if_pos c49] at H
                                      have c49b0 : decide (x63_3 < (t210.length : Int)) = true := decide_eq_true c49
                                      clear c49
                                      obtain ⟨ji50, hji50⟩ : ∃ j_ : Int, (wrap64 (x63_3 - 1)) = j_ := ⟨_, rfl⟩
                                      replace H : (if 0 ≤ (ji50) then (if (ji50) < (t210.length : Int) then (if (ji50) < (t209.length : Int) then (if (rd t210 x63_3) < (wrap64 ((wrap64 ((rd t210 (ji50)) + ((rd_T45 t209 (ji50)).f1))) - ((rd_T45 t209 (ji50)).f0))) then (none) else (oriellaw02_EditStands.l0 kj29 a0 l1 t207 t209 t210 (wrap64 ((wrap64 (x10_3 + ((rd_T45 t209 x63_3).f1))) - ((rd_T45 t209 x63_3).f0))) ((rd_T45 t209 x63_3).f1) t209 (t209.length : Int) (wrap64 (x63_3 + 1)))) else (none)) else (none)) else (none)) = some r := by first | (rw [hji50] at H; exact H) | (simp only [hji50] at H ⊢; exact H)
                                      have hji50w : (IntKind.i64.wrap (x63_3 - 1)) = ji50 := (i64_w _).trans hji50
                                      by_cases c51 : 0 ≤ (ji50)
                                      · rw [if_pos c51] at H
                                        have c51b0 : decide (0 ≤ (ji50)) = true := decide_eq_true c51
                                        clear c51
                                        by_cases c52 : (ji50) < (t210.length : Int)
                                        · rw [if_pos c52] at H
                                          have c52b0 : decide ((ji50) < (t210.length : Int)) = true := decide_eq_true c52
                                          clear c52
                                          by_cases c53 : (ji50) < (t209.length : Int)
                                          · rw [if_pos c53] at H
                                            have c53b0 : decide ((ji50) < (t209.length : Int)) = true := decide_eq_true c53
                                            clear c53
                                            by_cases c54 : (rd t210 x63_3) < (wrap64 ((wrap64 ((rd t210 (ji50)) + ((rd_T45 t209 (ji50)).f1))) - ((rd_T45 t209 (ji50)).f0)))
                                            · rw [if_pos c54] at H
                                              exact absurd H (by simp)
                                            · rw [if_neg c54] at H
                                              have c54b0 : decide ((rd t210 x63_3) < (wrap64 ((wrap64 ((rd t210 (ji50)) + ((rd_T45 t209 (ji50)).f1))) - ((rd_T45 t209 (ji50)).f0)))) = false := decide_eq_false c54
                                              clear c54
                                              have H' := Aside0.mk H
                                              clear H
                                              have p227 : 0 ≤ (x63_3 : Int) := of_decide_eq_true (by first | (with_reducible assumption) | assumption)
                                              have q227 : x63_3 < (t210.length : Int) := of_decide_eq_true (by first | (with_reducible assumption) | assumption)
                                              obtain ⟨ad227, e227, hx227_0⟩ := Kd.at_int (Kd.R_reads' HO_8.out).2.2 x63_3 p227 q227
                                              cases e227
                                              replace p227 := eq_true p227
                                              replace q227 := eq_true q227
                                              have p228 : 0 ≤ ((ji50) : Int) := of_decide_eq_true (by first | (with_reducible assumption) | assumption)
                                              have q228 : (ji50) < (t210.length : Int) := of_decide_eq_true (by first | (with_reducible assumption) | assumption)
                                              obtain ⟨ad228, e228, hx228_0⟩ := Kd.at_int (Kd.R_reads' HO_8.out).2.2 (ji50) p228 q228
                                              obtain rfl : ad227 = ad228 := (by injection e228)
                                              replace p228 := eq_true p228
                                              replace q228 := eq_true q228
                                              have p229 : 0 ≤ ((ji50) : Int) := of_decide_eq_true (by first | (with_reducible assumption) | assumption)
                                              have q229 : (ji50) < (t209.length : Int) := of_decide_eq_true (by first | (with_reducible assumption) | assumption)
                                              obtain ⟨ad229, e229, hx229_0, hx229_1⟩ := at_T45 (Kd.R_reads' HO_7.out).2.2 (ji50) p229 q229
                                              obtain rfl : ad221 = ad229 := (by injection e229)
                                              replace p229 := eq_true p229
                                              replace q229 := eq_true q229
                                              have p230 : 0 ≤ ((ji50) : Int) := of_decide_eq_true (by first | (with_reducible assumption) | assumption)
                                              have q230 : (ji50) < (t209.length : Int) := of_decide_eq_true (by first | (with_reducible assumption) | assumption)
                                              obtain ⟨ad230, e230, hx230_0, hx230_1⟩ := at_T45 (Kd.R_reads' HO_7.out).2.2 (ji50) p230 q230
                                              obtain rfl : ad221 = ad230 := (by injection e230)
                                              replace p230 := eq_true p230
                                              replace q230 := eq_true q230
                                              have hcz55_0 : wc.cell? ⟨gb222, 0, none⟩ = some (.int .i64 ((rd_T45 t209 x63_3).f0)) := (blk_cell BK222.out 0).trans rfl
                                              have hcz55_1 : wc.cell? ⟨gb222, 1, none⟩ = some (.int .i64 ((rd_T45 t209 x63_3).f1)) := (blk_cell BK222.out 1).trans rfl
                                              have hfz55_0 := blk_frozen BK222.out 0
                                              have hfz55_1 := blk_frozen BK222.out 1
                                              go_wp2
                                              repeat (go_quiet (fail); try go_wp2)
                                              go_roundg kj29
                                              case measure => have := HJ2.out; have := HJ11.out; have := HK3.out; have := HJ29.out; omega
                                              case rel => exact ⟨(wrap64 ((wrap64 (x10_3 + ((rd_T45 t209 x63_3).f1))) - ((rd_T45 t209 x63_3).f0))), (((rd_T45 t209 x63_3).f1)), (wrap64 (x63_3 + 1)), (by first | rfl | (simp; done) | (simp [*]; done)), (by first | rfl | (simp; done) | (simp [*]; done)), (by first | rfl | (simp; done) | (simp [*]; done)), H', ⟨by have := HJ2.out; have := HJ11.out; have := HK3.out; have := HJ29.out; omega⟩, ⟨by (with_reducible repeat (first | apply Kd.R_alloc | apply Kd.R_drewN | apply Kd.R_drew)); exact Kd.R_mono HO_7.out (fun _ hk => trivial)⟩, ⟨by (with_reducible repeat (first | apply Kd.R_alloc | apply Kd.R_drewN | apply Kd.R_drew)); exact HO_8.out⟩, ⟨by (with_reducible repeat (first | apply Kd.R_alloc | apply Kd.R_drewN | apply Kd.R_drew)); exact Kd.R_mono HO_61.out (fun _ hk => trivial)⟩, ⟨by repeat (first | (with_reducible first | exact HB.out | apply below_alloc | apply pw_below_drewN | apply below_drew1 | refine below_set ?_ GE222.out) | exact HB.out)⟩⟩
                                          · rw [if_neg c53] at H
                                            exact absurd H (by simp)
                                        · rw [if_neg c52] at H
                                          exact absurd H (by simp)
                                      · rw [if_neg c51] at H
                                        exact absurd H (by simp)
                                    · rw [if_neg c49] at H
                                      exact absurd H (by simp)
                                  · rw [if_neg c48] at H
                                    exact absurd H (by simp)
                                · rw [if_neg c47] at H
                                  have c47b0 : decide (0 < x63_3) = false := decide_eq_false c47
                                  clear c47
                                  have H' := Aside0.mk H
                                  clear H
                                  have hcz56_0 : wc.cell? ⟨gb222, 0, none⟩ = some (.int .i64 ((rd_T45 t209 x63_3).f0)) := (blk_cell BK222.out 0).trans rfl
                                  have hcz56_1 : wc.cell? ⟨gb222, 1, none⟩ = some (.int .i64 ((rd_T45 t209 x63_3).f1)) := (blk_cell BK222.out 1).trans rfl
                                  have hfz56_0 := blk_frozen BK222.out 0
                                  have hfz56_1 := blk_frozen BK222.out 1
                                  go_wp2
                                  repeat (go_quiet (fail); try go_wp2)
                                  go_roundg kj29
                                  case measure => have := HJ2.out; have := HJ11.out; have := HK3.out; have := HJ29.out; omega
                                  case rel => exact ⟨(wrap64 ((wrap64 (x10_3 + ((rd_T45 t209 x63_3).f1))) - ((rd_T45 t209 x63_3).f0))), (((rd_T45 t209 x63_3).f1)), (wrap64 (x63_3 + 1)), (by first | rfl | (simp; done) | (simp [*]; done)), (by first | rfl | (simp; done) | (simp [*]; done)), (by first | rfl | (simp; done) | (simp [*]; done)), H', ⟨by have := HJ2.out; have := HJ11.out; have := HK3.out; have := HJ29.out; omega⟩, ⟨by (with_reducible repeat (first | apply Kd.R_alloc | apply Kd.R_drewN | apply Kd.R_drew)); exact Kd.R_mono HO_7.out (fun _ hk => trivial)⟩, ⟨by (with_reducible repeat (first | apply Kd.R_alloc | apply Kd.R_drewN | apply Kd.R_drew)); exact HO_8.out⟩, ⟨by (with_reducible repeat (first | apply Kd.R_alloc | apply Kd.R_drewN | apply Kd.R_drew)); exact Kd.R_mono HO_61.out (fun _ hk => trivial)⟩, ⟨by repeat (first | (with_reducible first | exact HB.out | apply below_alloc | apply pw_below_drewN | apply below_drew1 | refine below_set ?_ GE222.out) | exact HB.out)⟩⟩
                        · rw [if_neg c29] at H
                          exact absurd H (by simp)
                      · rw [if_neg c28] at H
                        exact absurd H (by simp)
                    · rw [if_neg c27] at H
                      have c27b0 : decide (x63_3 < (t209.length : Int)) = false := decide_eq_false c27
                      clear c27
                      have H' := Aside0.mk H
                      clear H
                      go_wp2
                      repeat (go_quiet (fail); try go_wp2)
                      go_loopg [14, 173] k3 (fun kq v14 v173 w' => ∃ (x14_4 : Int) (x173_4 : Int), v14 = .int .i64 x14_4 ∧ v173 = .int .i64 x173_4 ∧ Aside0 (oriellaw02_EditStands.l1 kq t207 x10_3 x14_4 l1 (l1.length : Int) x173_4 = some r) ∧ Aside0 (kq ≤ k3) ∧ Aside0 (Below w.heap.size w w'))
                      case atStart => exact ⟨(0), (0), (by first | rfl | (simp; done) | (simp [*]; done)), (by first | rfl | (simp; done) | (simp [*]; done)), H', ⟨Nat.le_refl _⟩, ⟨by repeat (first | (with_reducible first | exact HB.out | apply below_alloc | apply pw_below_drewN | apply below_drew1) | exact HB.out)⟩⟩
                      case round =>
                        clear H'
                        try clear c1
                        try clear c2
                        try clear p2
                        try clear q2
                        try clear hx2
                        try clear c3
                        try clear c4
                        try clear c4b0
                        try clear c4b1
                        try clear c5
                        try clear p6
                        try clear c7
                        try clear c16
                        try clear c16b0
                        try clear c16b1
                        try clear c18
                        try clear c21
                        try clear c21b0
                        try clear c21b1
                        try clear p22
                        try clear q22
                        try clear hx22
                        try clear p23
                        try clear q23
                        try clear hx23
                        try clear c24
                        try clear c24b0
                        try clear c24b1
                        try clear c24b2
                        try clear c27
                        try clear c27b0
                        try clear c28
                        try clear c28b0
                        try clear c29
                        try clear c29b0
                        try clear c33
                        try clear c33b0
                        try clear c34
                        try clear c34b0
                        try clear c35
                        try clear c35b0
                        try clear c36
                        try clear c36b0
                        try clear c37
                        try clear c37b0
                        try clear c38
                        try clear c38b0
                        try clear c39
                        try clear c39b0
                        try clear c39b1
                        try clear c40
                        try clear c40b0
                        try clear c40b1
                        try clear c41
                        try clear c41b0
                        try clear c41b1
                        try clear c42
                        try clear c42b0
                        try clear c42b1
                        try clear c43
                        try clear c43b0
                        try clear c43b1
                        try clear c44
                        try clear c44b0
                        try clear c44b1
                        try clear c46
                        try clear c47
                        try clear c47b0
                        try clear c48
                        try clear c48b0
                        try clear c49
                        try clear c49b0
                        try clear c51
                        try clear c51b0
                        try clear c52
                        try clear c52b0
                        try clear c53
                        try clear c53b0
                        try clear c54
                        try clear c54b0
                        try clear hcz32_0
                        try clear hcz32_1
                        try clear hcz45_0
                        try clear hcz45_1
                        try clear hcz55_0
                        try clear hcz55_1
                        try clear hcz56_0
                        try clear hcz56_1
                        try clear hfz32_0
                        try clear hfz32_1
                        try clear hfz45_0
                        try clear hfz45_1
                        try clear hfz55_0
                        try clear hfz55_1
                        try clear hfz56_0
                        try clear hfz56_1
                        try clear hx221_0
                        try clear hx221_1
                        try clear hx223_0
                        try clear hx224_0
                        try clear hx225_0
                        try clear hx226_0
                        try clear hx227_0
                        try clear hx228_0
                        try clear hx229_0
                        try clear hx229_1
                        try clear hx230_0
                        try clear hx230_1
                        try clear p2
                        try clear p22
                        try clear p221
                        try clear p223
                        try clear p224
                        try clear p225
                        try clear p226
                        try clear p227
                        try clear p228
                        try clear p229
                        try clear p230
                        try clear p6
                        try clear q2
                        try clear q22
                        try clear q221
                        try clear q223
                        try clear q224
                        try clear q225
                        try clear q226
                        try clear q227
                        try clear q228
                        try clear q229
                        try clear q230
                        obtain ⟨x14_4, x173_4, rfl, rfl, HA, HK4, HB⟩ := hrel
                        cases gk with
                        | zero => exact absurd HA.out (by simp [oriellaw02_EditStands.l1])
                        | succ k4 =>
                          have H := HA.out
                          clear HA
                          simp only [oriellaw02_EditStands.l1] at H
                          by_cases c57 : x173_4 < (l1.length : Int)
                          · rw [if_pos c57] at H
                            have c57b0 : decide (x173_4 < (l1.length : Int)) = true := decide_eq_true c57
                            clear c57
                            by_cases c58 : 0 ≤ x173_4
                            · rw [if_pos c58] at H
                              have c58b0 : decide (0 ≤ x173_4) = true := decide_eq_true c58
                              clear c58
                              by_cases c59 : x173_4 < (l1.length : Int)
                              · rw [if_pos c59] at H
                                have c59b0 : decide (x173_4 < (l1.length : Int)) = true := decide_eq_true c59
                                clear c59
                                have H' := Aside0.mk H
                                clear H
                                have p231 : 0 ≤ (x173_4 : Int) := of_decide_eq_true (by first | (with_reducible assumption) | assumption)
                                have q231 : x173_4 < (l1.length : Int) := of_decide_eq_true (by first | (with_reducible assumption) | assumption)
                                obtain ⟨ad231, e231, hx231_0, hx231_1, hx231_2⟩ := at_T47 HR1.out x173_4 p231 q231
                                cases e231
                                replace hx231_0 := (HB.out.cell (World.block_lt_of_cell? w _ hx231_0)).trans hx231_0
                                replace hx231_1 := (HB.out.cell (World.block_lt_of_cell? w _ hx231_1)).trans hx231_1
                                replace hx231_2 := (HB.out.cell (World.block_lt_of_cell? w _ hx231_2)).trans hx231_2
                                replace p231 := eq_true p231
                                replace q231 := eq_true q231
                                go_wp2_with (first | ((with_reducible refine gate_dst (N := 16) rfl ?_); (try (refine gate_guard (by rfl) ?_; dsimp only)); refine box_event ?hg (N := 16) ?hd (cs := #[.int .i64 0, .int .i64 0, .string (⟨#[]⟩ : ByteArray)]) (t := 47) ?hr ?_; (case hd => rfl); (case hg => rfl); (case hr => first | (go_simp; done) | (go_simp; rfl)); intro gb232 hg w60 hbox hb; have n0_ := Aside0.mk (below_step (by repeat (first | (with_reducible first | exact HB.out | apply below_alloc | apply pw_below_drewN | apply below_drew1) | exact HB.out)) hb); have n1_ := Aside0.mk (hbox); have n2_ := Aside0.mk ((by rw [hg]; exact (below_size (by repeat (first | (with_reducible first | exact HB.out | apply below_alloc | apply pw_below_drewN | apply below_drew1) | exact HB.out))) : w.heap.size ≤ gb232)); have n3_ := Aside0.mk ((by rw [hg]; exact (below_size (by repeat (first | (with_reducible first | exact HB.out | apply below_alloc | apply pw_below_drewN | apply below_drew1) | exact HB.out))) : w.heap.size ≤ gb232)); clear HB; have HB := n0_; have BK232 := n1_; have GW232 := n2_; have GE232 := n3_; clear n0_ n1_ n2_ n3_; clear hb hbox hg; have hcz61_0 : w60.cell? ⟨gb232, 0, none⟩ = some (.int .i64 0) := (blk_cell BK232.out 0).trans rfl; have hcz61_1 : w60.cell? ⟨gb232, 1, none⟩ = some (.int .i64 0) := (blk_cell BK232.out 1).trans rfl; have hcz61_2 : w60.cell? ⟨gb232, 2, none⟩ = some (.string (⟨#[]⟩ : ByteArray)) := (blk_cell BK232.out 2).trans rfl; have hfz61_0 := blk_frozen BK232.out 0; have hfz61_1 := blk_frozen BK232.out 1; have hfz61_2 := blk_frozen BK232.out 2))
                                repeat (go_quiet (first | ((with_reducible refine gate_dst (N := 16) rfl ?_); (try (refine gate_guard (by rfl) ?_; dsimp only)); refine box_event ?hg (N := 16) ?hd (cs := #[.int .i64 0, .int .i64 0, .string (⟨#[]⟩ : ByteArray)]) (t := 47) ?hr ?_; (case hd => rfl); (case hg => rfl); (case hr => first | (go_simp; done) | (go_simp; rfl)); intro gb232 hg w60 hbox hb; have n0_ := Aside0.mk (below_step (by repeat (first | (with_reducible first | exact HB.out | apply below_alloc | apply pw_below_drewN | apply below_drew1) | exact HB.out)) hb); have n1_ := Aside0.mk (hbox); have n2_ := Aside0.mk ((by rw [hg]; exact (below_size (by repeat (first | (with_reducible first | exact HB.out | apply below_alloc | apply pw_below_drewN | apply below_drew1) | exact HB.out))) : w.heap.size ≤ gb232)); have n3_ := Aside0.mk ((by rw [hg]; exact (below_size (by repeat (first | (with_reducible first | exact HB.out | apply below_alloc | apply pw_below_drewN | apply below_drew1) | exact HB.out))) : w.heap.size ≤ gb232)); clear HB; have HB := n0_; have BK232 := n1_; have GW232 := n2_; have GE232 := n3_; clear n0_ n1_ n2_ n3_; clear hb hbox hg; have hcz61_0 : w60.cell? ⟨gb232, 0, none⟩ = some (.int .i64 0) := (blk_cell BK232.out 0).trans rfl; have hcz61_1 : w60.cell? ⟨gb232, 1, none⟩ = some (.int .i64 0) := (blk_cell BK232.out 1).trans rfl; have hcz61_2 : w60.cell? ⟨gb232, 2, none⟩ = some (.string (⟨#[]⟩ : ByteArray)) := (blk_cell BK232.out 2).trans rfl; have hfz61_0 := blk_frozen BK232.out 0; have hfz61_1 := blk_frozen BK232.out 1; have hfz61_2 := blk_frozen BK232.out 2)); try go_wp2_with (first | ((with_reducible refine gate_dst (N := 16) rfl ?_); (try (refine gate_guard (by rfl) ?_; dsimp only)); refine box_event ?hg (N := 16) ?hd (cs := #[.int .i64 0, .int .i64 0, .string (⟨#[]⟩ : ByteArray)]) (t := 47) ?hr ?_; (case hd => rfl); (case hg => rfl); (case hr => first | (go_simp; done) | (go_simp; rfl)); intro gb232 hg w60 hbox hb; have n0_ := Aside0.mk (below_step (by repeat (first | (with_reducible first | exact HB.out | apply below_alloc | apply pw_below_drewN | apply below_drew1) | exact HB.out)) hb); have n1_ := Aside0.mk (hbox); have n2_ := Aside0.mk ((by rw [hg]; exact (below_size (by repeat (first | (with_reducible first | exact HB.out | apply below_alloc | apply pw_below_drewN | apply below_drew1) | exact HB.out))) : w.heap.size ≤ gb232)); have n3_ := Aside0.mk ((by rw [hg]; exact (below_size (by repeat (first | (with_reducible first | exact HB.out | apply below_alloc | apply pw_below_drewN | apply below_drew1) | exact HB.out))) : w.heap.size ≤ gb232)); clear HB; have HB := n0_; have BK232 := n1_; have GW232 := n2_; have GE232 := n3_; clear n0_ n1_ n2_ n3_; clear hb hbox hg; have hcz61_0 : w60.cell? ⟨gb232, 0, none⟩ = some (.int .i64 0) := (blk_cell BK232.out 0).trans rfl; have hcz61_1 : w60.cell? ⟨gb232, 1, none⟩ = some (.int .i64 0) := (blk_cell BK232.out 1).trans rfl; have hcz61_2 : w60.cell? ⟨gb232, 2, none⟩ = some (.string (⟨#[]⟩ : ByteArray)) := (blk_cell BK232.out 2).trans rfl; have hfz61_0 := blk_frozen BK232.out 0; have hfz61_1 := blk_frozen BK232.out 1; have hfz61_2 := blk_frozen BK232.out 2)))
                                go_roundg k4
                                case measure => have := HJ2.out; have := HJ11.out; have := HK3.out; have := HK4.out; omega
                                case rel => exact ⟨(wrap64 (x14_4 + (((rd_T47 l1 x173_4).f2).size : Int))), (wrap64 (x173_4 + 1)), (by first | rfl | (simp; done) | (simp [*]; done)), (by first | rfl | (simp; done) | (simp [*]; done)), H', ⟨by have := HJ2.out; have := HJ11.out; have := HK3.out; have := HK4.out; omega⟩, ⟨by repeat (first | (with_reducible first | exact HB.out | apply below_alloc | apply pw_below_drewN | apply below_drew1 | refine below_set ?_ GE232.out) | exact HB.out)⟩⟩
                              · rw [if_neg c59] at H
                                exact absurd H (by simp)
                            · rw [if_neg c58] at H
                              exact absurd H (by simp)
                          · rw [if_neg c57] at H
                            have c57b0 : decide (x173_4 < (l1.length : Int)) = false := decide_eq_false c57
                            clear c57
                            by_cases c62 : (t207.size : Int) = (wrap64 (x10_3 + x14_4))
                            · rw [if_pos c62] at H
                              have c62b0 : ((t207.size : Int) == (wrap64 (x10_3 + x14_4))) = true := beq_iff_eq.mpr c62
                              have c62b1 : ((t207.size : Int) != (wrap64 (x10_3 + x14_4))) = false := bne_eq_false_iff_eq.mpr c62
                              clear c62
                              replace H := Option.bind_eq_some_iff.mp H
                              obtain ⟨t233, A630, H⟩ := H
                              replace H : (some t233) = some r := H
                              have A63 := Aside0.mk A630
                              clear A630
                              obtain rfl := Option.some.inj H
                              go_wp2_with (first | (go_at_call 10; (with_reducible refine (oriellaw02_alive.calls k4  t233 _ A63.out).mono ?_); rintro e w64 ⟨rfl, hb⟩; have n0_ := Aside0.mk (below_step (by repeat (first | (with_reducible first | exact HB.out | apply below_alloc | apply pw_below_drewN | apply below_drew1) | exact HB.out)) hb); clear HB; have HB := n0_; clear n0_; (try clear hb); (try clear hb2); (try clear hk); (try clear hi)))
                              repeat (go_quiet (first | (go_at_call 10; (with_reducible refine (oriellaw02_alive.calls k4  t233 _ A63.out).mono ?_); rintro e w64 ⟨rfl, hb⟩; have n0_ := Aside0.mk (below_step (by repeat (first | (with_reducible first | exact HB.out | apply below_alloc | apply pw_below_drewN | apply below_drew1) | exact HB.out)) hb); clear HB; have HB := n0_; clear n0_; (try clear hb); (try clear hb2); (try clear hk); (try clear hi))); try go_wp2_with (first | (go_at_call 10; (with_reducible refine (oriellaw02_alive.calls k4  t233 _ A63.out).mono ?_); rintro e w64 ⟨rfl, hb⟩; have n0_ := Aside0.mk (below_step (by repeat (first | (with_reducible first | exact HB.out | apply below_alloc | apply pw_below_drewN | apply below_drew1) | exact HB.out)) hb); clear HB; have HB := n0_; clear n0_; (try clear hb); (try clear hb2); (try clear hk); (try clear hi))))
                              go_ret
                              exact ⟨by first | rfl | (simp [errW_none, errW_some] <;> rfl) | (simp [*, errW_none, errW_some] <;> rfl), by repeat (first | (with_reducible first | exact HB.out | apply below_alloc | apply pw_below_drewN | apply below_drew1) | exact HB.out)⟩
                            · rw [if_neg c62] at H
                              exact absurd H (by simp)
              · rw [if_neg c24] at H
                exact absurd H (by simp)

end Go.Proofs.Ytmgeheomokjimaa.PAll
