-- Written by ownprint.py, a program of this session (out of the kit's print, with contracts of the session's own).
import Derived.Test.YtclcnglamlegiaaWMore
import Derived.Test.YtclcnglamlegiaaPMRx0
import Derived.Test.YtclcnglamlegiaaPMRx14
import Derived.Test.YtclcnglamlegiaaPMRx15
import Derived.Test.YtclcnglamlegiaaPMRx16
import Derived.Test.YtclcnglamlegiaaPMRx22
import Derived.Test.YtclcnglamlegiaaPMRx23
import Derived.Test.YtclcnglamlegiaaPMRx24
import Derived.Test.YtclcnglamlegiaaPMRx25
import Derived.Test.YtclcnglamlegiaaPMRx26
import Derived.Test.YtclcnglamlegiaaPMRx27
namespace Go.Proofs.Ytclcnglamlegiaa.PMR
open Go.RowKit Go.Proofs.YtclcnglamlegiaaW.PrintWords Go.Proofs.YtclcnglamlegiaaW.PrintLast Go.Proofs.YtclcnglamlegiaaW.PrintMore
attribute [local go_sem] max2_int min2_int max_two min_two max_three min_three max_four min_four   -- for this text's walks alone
set_option linter.unusedVariables false
set_option linter.unusedSimpArgs false
attribute [local go_sem high] eqA30
/-! ### oriellaw35_MergeReplays: function 5 -/
mutual
def oriellaw35_MergeReplays.j0 : Nat → List (S36) → List (List (S34)) → List (S34) → Bool → Option (Bool)
 | 0, _, _, _, _ => none
 | k + 1, x0, x1, x2, x34 => if x34 = true then ((oriellaw35_alive.f k).bind fun t270 => (some t270)) else ((merge_Replay.f k x0 x1).bind fun bt271 => ((orielref35_Replay.f k x0 x1).bind fun bt279 => ((merge_Net.f k x0 x1).bind fun bt287 => (if bt271.2.1 = bt279.2.1 then (if (!(bt271.2.2.1 == bt279.2.2.1) || (!(bt271.2.2.2.1 == bt279.2.2.2.1) || (!(bt271.2.2.2.2 == bt279.2.2.2.2)))) = true then (none) else (if bt287.2.1 = bt279.2.1 then (if (!(bt287.2.2.1 == bt279.2.2.1) || (!(bt287.2.2.2.1 == bt279.2.2.2.1) || (!(bt287.2.2.2.2 == bt279.2.2.2.2)))) = true then (none) else (oriellaw35_MergeReplays.j1 k x0 x2 bt271.1 bt279.1 bt287.1 ((bt271.1.length : Int) != (bt279.1.length : Int)) bt279.2.2.1 bt279.2.2.2.1 bt279.2.2.2.2)) else (none))) else (none)))))
def oriellaw35_MergeReplays.j1 : Nat → List (S36) → List (S34) → List (List (S36)) → List (List (S36)) → List (S34) → Bool → Int → Int → Int → Option (Bool)
 | 0, _, _, _, _, _, _, _, _, _ => none
 | k + 1, x0, x2, x7, x10, x13, x81, x287000, x287001, x287002 => if x81 = true then (none) else (oriellaw35_MergeReplays.l0 k x0 x2 x7 x10 x13 (x7.length : Int) 0 x287000 x287001 x287002)
def oriellaw35_MergeReplays.l0 : Nat → List (S36) → List (S34) → List (List (S36)) → List (List (S36)) → List (S34) → Int → Int → Int → Int → Int → Option (Bool)
 | 0, _, _, _, _, _, _, _, _, _, _ => none
 | k + 1, x0, x2, x7, x10, x13, x83, x84, x287000, x287001, x287002 => if x84 < x83 then (if 0 ≤ x84 then (if x84 < (x7.length : Int) then (if x84 < (x10.length : Int) then ((orielref17_Files.f k (rd_L7 x7 x84) (rd_L7 x10 x84)).bind fun t297 => (if t297 = true then (oriellaw35_MergeReplays.l0 k x0 x2 x7 x10 x13 x83 (wrap64 (x84 + 1)) x287000 x287001 x287002) else (none))) else (none)) else (none)) else (none)) else (if (!(x287000 == 0) || (!(x287001 == 0) || (!(x287002 == 0)))) = true then (if (x13.length : Int) = 0 then ((oriellaw35_alive.f k).bind fun t298 => (some t298)) else (none)) else (if (x10.length : Int) > 0 then (if 0 ≤ (wrap64 ((x10.length : Int) - 1)) then (if (wrap64 ((x10.length : Int) - 1)) < (x10.length : Int) then (oriellaw35_MergeReplays.j3 k x0 x2 x13 (rd_L7 x10 (wrap64 ((x10.length : Int) - 1)))) else (none)) else (none)) else (oriellaw35_MergeReplays.j3 k x0 x2 x13 x0)))
def oriellaw35_MergeReplays.j3 : Nat → List (S36) → List (S34) → List (S34) → List (S36) → Option (Bool)
 | 0, _, _, _, _ => none
 | k + 1, x0, x2, x13, x17 => (orielref17_Apply.f k x0 x2).bind fun bt300 => ((merge_Tight.f k x0 x2).bind fun bt307 => (if (!(bt307.2.1 == bt300.2.1) || (!(bt307.2.2.1 == bt300.2.2.1) || (!(bt307.2.2.2 == bt300.2.2.2)))) = true then (none) else (if (!(bt300.2.1 == 0) || (!(bt300.2.2.1 == 0) || (!(bt300.2.2.2 == 0)))) = true then (if (bt307.1.length : Int) > 0 then (none) else (if (bt300.2.1 == 0 && (bt300.2.2.1 == 0 && (bt300.2.2.2 == 0))) = true then ((orielref35_Net.f k x0 bt300.1).bind fun t314 => ((orielref18_Changes.f k bt307.1 t314).bind fun t317 => (oriellaw35_MergeReplays.j4 k x0 x13 x17 (!t317)))) else (oriellaw35_MergeReplays.j4 k x0 x13 x17 false))) else (if (bt300.2.1 == 0 && (bt300.2.2.1 == 0 && (bt300.2.2.2 == 0))) = true then ((orielref35_Net.f k x0 bt300.1).bind fun t318 => ((orielref18_Changes.f k bt307.1 t318).bind fun t321 => (oriellaw35_MergeReplays.j4 k x0 x13 x17 (!t321)))) else (oriellaw35_MergeReplays.j4 k x0 x13 x17 false)))))
def oriellaw35_MergeReplays.j4 : Nat → List (S36) → List (S34) → List (S36) → Bool → Option (Bool)
 | 0, _, _, _, _ => none
 | k + 1, x0, x13, x17, x154 => if x154 = true then (none) else ((orielref35_Net.f k x0 x17).bind fun t322 => ((orielref18_Changes.f k x13 t322).bind fun t325 => (if t325 = true then ((oriellaw35_alive.f k).bind fun t326 => (some t326)) else (none))))
end
def oriellaw35_MergeReplays.f (k : Nat) (l0 : List (S36)) (l1 : List (List (S34))) (l2 : List (S34)) : Option (Bool) := (orielref10_Few.f k l0).bind fun t267 => (if t267 = true then ((orielref35_Few.f k l1).bind fun t268 => (if t268 = true then ((orielref17_Few.f k l2).bind fun t269 => (oriellaw35_MergeReplays.j0 k l0 l1 l2 (!t269))) else (oriellaw35_MergeReplays.j0 k l0 l1 l2 true))) else (oriellaw35_MergeReplays.j0 k l0 l1 l2 true))
set_option maxHeartbeats 8000000 in
set_option maxRecDepth 100000 in
theorem oriellaw35_MergeReplays.calls (k : Nat) (P0_ : Nat → Prop) (A0 : Option Addr) (c0 : Nat) (l0 : List (S36)) (A1 : Option Addr) (c1 : Nat) (l1 : List (List (S34))) (A2 : Option Addr) (c2 : Nat) (l2 : List (S34)) (r : Bool) (w : World) (hs0 : Kd.V k36 36 w w.heap.size (fun k_ => P0_ k_) (.slice A0 l0.length c0) l0) (hr1 : Kd.C (Kd.slice 34 k34) w A1 l1.length l1) (hc1 : l1.length ≤ c1) (hr2 : Kd.C k34 w A2 l2.length l2) (hc2 : l2.length ≤ c2) (h : oriellaw35_MergeReplays.f k l0 l1 l2 = some r) :
  Calls Try.prog 5 #[.slice A0 l0.length c0, .slice A1 l1.length c1, .slice A2 l2.length c2] w fun e w' => e = .returned (.bool r) ∧ Below w.heap.size w w' := by
 have hu30 := Try.underlying30
 have HO0 := a0_ (show Kd.V k36 36 w w.heap.size (fun k_ => (P0_ k_ ∨ w.heap.size ≤ k_)) (.slice A0 l0.length c0) l0 from Kd.V_mono hs0 (fun k_ hk => .inl hk))
 have HR1 := a0_ hr1
 have HC1 := a0_ hc1
 clear hr1 hc1
 have HR2 := a0_ hr2
 have HC2 := a0_ hc2
 clear hr2 hc2
 have HB := a0_ (Below.refl w.heap.size w)
 have H : ((orielref10_Few.f k l0).bind fun t267 => (if t267 = true then ((orielref35_Few.f k l1).bind fun t268 => (if t268 = true then ((orielref17_Few.f k l2).bind fun t269 => (oriellaw35_MergeReplays.j0 k l0 l1 l2 (!t269))) else (oriellaw35_MergeReplays.j0 k l0 l1 l2 true))) else (oriellaw35_MergeReplays.j0 k l0 l1 l2 true))) = some r := h
 clear h
 have HC4 := a0_ H
 clear H
 go_enter Try.func5, Try.ntmps5
 go_upto_region 1 with (fail)
 repeat (go_quiet (fail); go_upto_region 1 with (fail))
 go_cut [34] (fun v34 wc => ∃ (kq : Nat) (x34_3 : Bool), v34 = .bool x34_3 ∧ Aside0 (oriellaw35_MergeReplays.j0 kq l0 l1 l2 x34_3 = some r) ∧ Aside0 (kq ≤ k) ∧ Aside0 (Kd.V k36 36 wc w.heap.size (fun k_ => (P0_ k_ ∨ w.heap.size ≤ k_)) (.slice A0 l0.length c0) l0) ∧ Aside0 (Below w.heap.size w wc))
 case first =>
  have H := HC4.out
  clear HC4
  replace H := ob_ H
  obtain ⟨t267, A50, H⟩ := H
  replace H : (if t267 = true then ((orielref35_Few.f k l1).bind fun t268 => (if t268 = true then ((orielref17_Few.f k l2).bind fun t269 => (oriellaw35_MergeReplays.j0 k l0 l1 l2 (!t269))) else (oriellaw35_MergeReplays.j0 k l0 l1 l2 true))) else (oriellaw35_MergeReplays.j0 k l0 l1 l2 true)) = some r := H
  have A5 := a0_ A50
  clear A50
  by_cases c6 : t267 = true
  ·subst c6
   have H1 : ((orielref35_Few.f k l1).bind fun t268 => (if t268 = true then ((orielref17_Few.f k l2).bind fun t269 => (oriellaw35_MergeReplays.j0 k l0 l1 l2 (!t269))) else (oriellaw35_MergeReplays.j0 k l0 l1 l2 true))) = some r := by rw [if_pos rfl] at H; exact H
   clear H
   have H := H1
   clear H1
   replace H := ob_ H
   obtain ⟨t268, A70, H⟩ := H
   replace H : (if t268 = true then ((orielref17_Few.f k l2).bind fun t269 => (oriellaw35_MergeReplays.j0 k l0 l1 l2 (!t269))) else (oriellaw35_MergeReplays.j0 k l0 l1 l2 true)) = some r := H
   have A7 := a0_ A70
   clear A70
   by_cases c8 : t268 = true
   ·subst c8
    have H1 : ((orielref17_Few.f k l2).bind fun t269 => (oriellaw35_MergeReplays.j0 k l0 l1 l2 (!t269))) = some r := by rw [if_pos rfl] at H; exact H
    clear H
    have H := H1
    clear H1
    replace H := ob_ H
    obtain ⟨t269, A90, H⟩ := H
    replace H : (oriellaw35_MergeReplays.j0 k l0 l1 l2 (!t269)) = some r := H
    have A9 := a0_ A90
    clear A90
    have H' := a0_ H
    clear H
    go_wp2_with (first | (go_at_call 7; (with_reducible refine (orielref10_Few.calls k _ _ l0 true _ ?side1 ?side2 A5.out).mono ?_); (case side1 => repeat (first | exact (Kd.V_reads' HO0.out).2.2 | (with_reducible refine Kd.C_alloc ?_ _) | (with_reducible refine Kd.C_drewN ?_ _) | (with_reducible refine Kd.C_drew ?_))); (case side2 => exact (Kd.V_reads' HO0.out).2.1); rintro e w10 ⟨rfl, hb⟩; replace HO0 := a0_ (Kd.V_below (by (with_reducible repeat (first | apply Kd.V_alloc | apply Kd.V_drewN | apply Kd.V_drew)); exact HO0.out) hb); replace HB := a0_ (bT_ (by repeat (first | (with_reducible first | exact HB.out | apply bA_ | apply bN_ | apply bD_) | exact HB.out)) hb); (try clear hb); (try clear hb2); (try clear hk); (try clear hi)) | (go_at_call 8; (with_reducible refine (orielref35_Few.calls k _ _ l1 true _ ?side1 ?side2 A7.out).mono ?_); (case side1 => repeat (first | exact (Kd.C_below HR1.out HB.out) | (with_reducible refine Kd.C_alloc ?_ _) | (with_reducible refine Kd.C_drewN ?_ _) | (with_reducible refine Kd.C_drew ?_))); (case side2 => exact HC1.out); rintro e w11 ⟨rfl, hb⟩; replace HO0 := a0_ (Kd.V_below (by (with_reducible repeat (first | apply Kd.V_alloc | apply Kd.V_drewN | apply Kd.V_drew)); exact HO0.out) hb); replace HB := a0_ (bT_ (by repeat (first | (with_reducible first | exact HB.out | apply bA_ | apply bN_ | apply bD_) | exact HB.out)) hb); (try clear hb); (try clear hb2); (try clear hk); (try clear hi)) | (go_at_call 13; (with_reducible refine (orielref17_Few.calls k _ _ l2 t269 _ ?side1 ?side2 A9.out).mono ?_); (case side1 => repeat (first | exact (Kd.C_below HR2.out HB.out) | (with_reducible refine Kd.C_alloc ?_ _) | (with_reducible refine Kd.C_drewN ?_ _) | (with_reducible refine Kd.C_drew ?_))); (case side2 => exact HC2.out); rintro e w12 ⟨rfl, hb⟩; replace HO0 := a0_ (Kd.V_below (by (with_reducible repeat (first | apply Kd.V_alloc | apply Kd.V_drewN | apply Kd.V_drew)); exact HO0.out) hb); replace HB := a0_ (bT_ (by repeat (first | (with_reducible first | exact HB.out | apply bA_ | apply bN_ | apply bD_) | exact HB.out)) hb); (try clear hb); (try clear hb2); (try clear hk); (try clear hi)))
    go_meet
    case rel => exact ⟨_, (!t269), (by first | rfl | (simp; done) | (simp [*]; done)), H', ⟨by first | omega | exact Nat.le_refl _⟩, ⟨by (with_reducible repeat (first | apply Kd.V_alloc | apply Kd.V_drewN | apply Kd.V_drew)); exact HO0.out⟩, ⟨by repeat (first | (with_reducible first | exact HB.out | apply bA_ | apply bN_ | apply bD_) | exact HB.out)⟩⟩
   ·replace c8 := Bool.eq_false_iff.mpr c8
    subst c8
    have H1 : (oriellaw35_MergeReplays.j0 k l0 l1 l2 true) = some r := by rw [if_neg (show ¬ (false = true) by decide)] at H; exact H
    clear H
    have H := H1
    clear H1
    have H' := a0_ H
    clear H
    go_wp2_with (first | (go_at_call 7; (with_reducible refine (orielref10_Few.calls k _ _ l0 true _ ?side1 ?side2 A5.out).mono ?_); (case side1 => repeat (first | exact (Kd.V_reads' HO0.out).2.2 | (with_reducible refine Kd.C_alloc ?_ _) | (with_reducible refine Kd.C_drewN ?_ _) | (with_reducible refine Kd.C_drew ?_))); (case side2 => exact (Kd.V_reads' HO0.out).2.1); rintro e w13 ⟨rfl, hb⟩; replace HO0 := a0_ (Kd.V_below (by (with_reducible repeat (first | apply Kd.V_alloc | apply Kd.V_drewN | apply Kd.V_drew)); exact HO0.out) hb); replace HB := a0_ (bT_ (by repeat (first | (with_reducible first | exact HB.out | apply bA_ | apply bN_ | apply bD_) | exact HB.out)) hb); (try clear hb); (try clear hb2); (try clear hk); (try clear hi)) | (go_at_call 8; (with_reducible refine (orielref35_Few.calls k _ _ l1 false _ ?side1 ?side2 A7.out).mono ?_); (case side1 => repeat (first | exact (Kd.C_below HR1.out HB.out) | (with_reducible refine Kd.C_alloc ?_ _) | (with_reducible refine Kd.C_drewN ?_ _) | (with_reducible refine Kd.C_drew ?_))); (case side2 => exact HC1.out); rintro e w14 ⟨rfl, hb⟩; replace HO0 := a0_ (Kd.V_below (by (with_reducible repeat (first | apply Kd.V_alloc | apply Kd.V_drewN | apply Kd.V_drew)); exact HO0.out) hb); replace HB := a0_ (bT_ (by repeat (first | (with_reducible first | exact HB.out | apply bA_ | apply bN_ | apply bD_) | exact HB.out)) hb); (try clear hb); (try clear hb2); (try clear hk); (try clear hi)))
    go_meet
    case rel => exact ⟨_, (true), (by first | rfl | (simp; done) | (simp [*]; done)), H', ⟨by first | omega | exact Nat.le_refl _⟩, ⟨by (with_reducible repeat (first | apply Kd.V_alloc | apply Kd.V_drewN | apply Kd.V_drew)); exact HO0.out⟩, ⟨by repeat (first | (with_reducible first | exact HB.out | apply bA_ | apply bN_ | apply bD_) | exact HB.out)⟩⟩
  ·replace c6 := Bool.eq_false_iff.mpr c6
   subst c6
   have H1 : (oriellaw35_MergeReplays.j0 k l0 l1 l2 true) = some r := by rw [if_neg (show ¬ (false = true) by decide)] at H; exact H
   clear H
   have H := H1
   clear H1
   have H' := a0_ H
   clear H
   go_wp2_with (first | (go_at_call 7; (with_reducible refine (orielref10_Few.calls k _ _ l0 false _ ?side1 ?side2 A5.out).mono ?_); (case side1 => repeat (first | exact (Kd.V_reads' HO0.out).2.2 | (with_reducible refine Kd.C_alloc ?_ _) | (with_reducible refine Kd.C_drewN ?_ _) | (with_reducible refine Kd.C_drew ?_))); (case side2 => exact (Kd.V_reads' HO0.out).2.1); rintro e w15 ⟨rfl, hb⟩; replace HO0 := a0_ (Kd.V_below (by (with_reducible repeat (first | apply Kd.V_alloc | apply Kd.V_drewN | apply Kd.V_drew)); exact HO0.out) hb); replace HB := a0_ (bT_ (by repeat (first | (with_reducible first | exact HB.out | apply bA_ | apply bN_ | apply bD_) | exact HB.out)) hb); (try clear hb); (try clear hb2); (try clear hk); (try clear hi)))
   go_meet
   case rel => exact ⟨_, (true), (by first | rfl | (simp; done) | (simp [*]; done)), H', ⟨by first | omega | exact Nat.le_refl _⟩, ⟨by (with_reducible repeat (first | apply Kd.V_alloc | apply Kd.V_drewN | apply Kd.V_drew)); exact HO0.out⟩, ⟨by repeat (first | (with_reducible first | exact HB.out | apply bA_ | apply bN_ | apply bD_) | exact HB.out)⟩⟩
 case rest =>
  clear HC4
  obtain ⟨kq, x34_3, rfl, HA, HJ3, HO_0, HB⟩ := hcut
  cases kq with
  | zero => exact absurd HA.out (by simp [oriellaw35_MergeReplays.j0])
  | succ kj3 =>
   have H := HA.out
   clear HA
   simp only [oriellaw35_MergeReplays.j0] at H
   by_cases c16 : x34_3 = true
   ·subst c16
    have H1 : ((oriellaw35_alive.f kj3).bind fun t270 => (some t270)) = some r := by rw [if_pos rfl] at H; exact H
    clear H
    have H := H1
    clear H1
    replace H := ob_ H
    obtain ⟨t270, A170, H⟩ := H
    replace H : (some t270) = some r := H
    have A17 := a0_ A170
    clear A170
    obtain rfl := Option.some.inj H
    go_wp2_with (first | (go_at_call 9; (with_reducible refine (oriellaw35_alive.calls kj3  t270 _ A17.out).mono ?_); rintro e w18 ⟨rfl, hb⟩; replace HO_0 := a0_ (Kd.V_below (by (with_reducible repeat (first | apply Kd.V_alloc | apply Kd.V_drewN | apply Kd.V_drew)); exact HO_0.out) hb); replace HB := a0_ (bT_ (by repeat (first | (with_reducible first | exact HB.out | apply bA_ | apply bN_ | apply bD_) | exact HB.out)) hb); (try clear hb); (try clear hb2); (try clear hk); (try clear hi)))
    go_ret
    exact ⟨by first | rfl | (simp [errW_none, errW_some] <;> rfl) | (simp [*, errW_none, errW_some] <;> rfl), by repeat (first | (with_reducible first | exact HB.out | apply bA_ | apply bN_ | apply bD_) | exact HB.out)⟩
   ·replace c16 := Bool.eq_false_iff.mpr c16
    subst c16
    have H1 : ((merge_Replay.f kj3 l0 l1).bind fun bt271 => ((orielref35_Replay.f kj3 l0 l1).bind fun bt279 => ((merge_Net.f kj3 l0 l1).bind fun bt287 => (if bt271.2.1 = bt279.2.1 then (if (!(bt271.2.2.1 == bt279.2.2.1) || (!(bt271.2.2.2.1 == bt279.2.2.2.1) || (!(bt271.2.2.2.2 == bt279.2.2.2.2)))) = true then (none) else (if bt287.2.1 = bt279.2.1 then (if (!(bt287.2.2.1 == bt279.2.2.1) || (!(bt287.2.2.2.1 == bt279.2.2.2.1) || (!(bt287.2.2.2.2 == bt279.2.2.2.2)))) = true then (none) else (oriellaw35_MergeReplays.j1 kj3 l0 l2 bt271.1 bt279.1 bt287.1 ((bt271.1.length : Int) != (bt279.1.length : Int)) bt279.2.2.1 bt279.2.2.2.1 bt279.2.2.2.2)) else (none))) else (none))))) = some r := by rw [if_neg (show ¬ (false = true) by decide)] at H; exact H
    clear H
    have H := H1
    clear H1
    replace H := ob_ H
    obtain ⟨⟨t271, t274, t275, t276, t277⟩, A190, H⟩ := H
    dsimp only at H
    have A19 := a0_ A190
    clear A190
    replace H := ob_ H
    obtain ⟨⟨t279, t282, t283, t284, t285⟩, A200, H⟩ := H
    dsimp only at H
    have A20 := a0_ A200
    clear A200
    replace H := ob_ H
    obtain ⟨⟨t287, t290, t291, t292, t293⟩, A210, H⟩ := H
    dsimp only at H
    have A21 := a0_ A210
    clear A210
    have HC22 := a0_ H
    clear H
    go_upto_region 6 with (first | (go_at_call 14; (with_reducible refine (merge_Replay.calls kj3 (fun k_ => (P0_ k_ ∨ w.heap.size ≤ k_)) _ _ l0 _ _ l1 t271 t274 t275 t276 t277 _ ?side1 ?side2 ?side3 A19.out).mono ?_); (case side1 => exact HO_0.out); (case side2 => repeat (first | exact (Kd.C_below HR1.out HB.out) | (with_reducible refine Kd.C_alloc ?_ _) | (with_reducible refine Kd.C_drewN ?_ _) | (with_reducible refine Kd.C_drew ?_))); (case side3 => exact HC1.out); rintro e w23 ⟨v272, rfl, ho0, hb⟩; replace HO_0 := a0_ (Kd.V_below (by (with_reducible repeat (first | apply Kd.V_alloc | apply Kd.V_drewN | apply Kd.V_drew)); exact HO_0.out) hb); have HO273 := a0_ (Kd.V_lower (Kd.V_mono (ok' := fun k_ => (P0_ k_ ∨ w.heap.size ≤ k_)) ho0 (fun k_ hk_ => Or.elim hk_ (fun hs_ => hs_) (fun hn_ => (.inr (Nat.le_trans (bZ_ (by repeat (first | (with_reducible first | exact HB.out | apply bA_ | apply bN_ | apply bD_) | exact HB.out))) hn_))))) (bZ_ (by repeat (first | (with_reducible first | exact HB.out | apply bA_ | apply bN_ | apply bD_) | exact HB.out)))); replace HB := a0_ (bT_ (by repeat (first | (with_reducible first | exact HB.out | apply bA_ | apply bN_ | apply bD_) | exact HB.out)) hb); (try clear hb); (try clear hb2); (try clear hk); (try clear hi); (try clear ho0)) | ((with_reducible refine gate_dst (N := 9) rfl ?_); (try (refine gate_guard (by rfl) ?_; dsimp only)); refine box_event ?hg (N := 9) ?hd (cs := #[.int .i64 0, .int .i64 0, .int .i64 0]) (t := 30) ?hr ?_; (case hd => rfl); (case hg => rfl); (case hr => first | (go_simp; done) | (go_simp; rfl)); intro gb278 hg w24 hbox hb; replace HO_0 := a0_ (Kd.V_below (Kd.V_elderB (by (with_reducible repeat (first | apply Kd.V_alloc | apply Kd.V_drewN | apply Kd.V_drew)); exact HO_0.out) gb278 (Nat.le_of_eq hg.symm)) hb); replace HO273 := a0_ (Kd.V_below (Kd.V_elderB (by (with_reducible repeat (first | apply Kd.V_alloc | apply Kd.V_drewN | apply Kd.V_drew)); exact HO273.out) gb278 (Nat.le_of_eq hg.symm)) hb); have BK278 := a0_ (hbox); have GW278 := a0_ ((by rw [hg]; exact (bZ_ (by repeat (first | (with_reducible first | exact HB.out | apply bA_ | apply bN_ | apply bD_) | exact HB.out))) : w.heap.size ≤ gb278)); have GE278 := a0_ ((by rw [hg]; exact (bZ_ (by repeat (first | (with_reducible first | exact HB.out | apply bA_ | apply bN_ | apply bD_) | exact HB.out))) : w.heap.size ≤ gb278)); replace HB := a0_ (bT_ (by repeat (first | (with_reducible first | exact HB.out | apply bA_ | apply bN_ | apply bD_) | exact HB.out)) hb); clear hb hbox hg; have hcz25_0 : w24.cell? ⟨gb278, 0, none⟩ = some (.int .i64 0) := (blk_cell BK278.out 0).trans rfl; have hcz25_1 : w24.cell? ⟨gb278, 1, none⟩ = some (.int .i64 0) := (blk_cell BK278.out 1).trans rfl; have hcz25_2 : w24.cell? ⟨gb278, 2, none⟩ = some (.int .i64 0) := (blk_cell BK278.out 2).trans rfl; have hfz25_0 := kF_ BK278.out 0; have hfz25_1 := kF_ BK278.out 1; have hfz25_2 := kF_ BK278.out 2) | ((with_reducible refine gate_store (t := 30) (p := 9) rfl ?_); (try (rw [drewN_self w24]; generalize hq_ : World.drewN w24 _ = w24; have n0_ := a0_ (Kd.V_at hq_ HO_0.out); have n1_ := a0_ (Kd.V_at hq_ HO273.out); have n2_ := a0_ (blk_at hq_ BK278.out); have n3_ := a0_ (below_at hq_ HB.out); clear hq_ HO_0 HO273 BK278 HB; have HO_0 := n0_; have HO273 := n1_; have BK278 := n2_; have HB := n3_; clear n0_ n1_ n2_ n3_)); refine store_event (t := 30) (p := 9) (v := ?vo_w26) (w1 := (((w24.setCell ⟨gb278, 0, none⟩ (.int .i64 t275)).setCell ⟨gb278, 1, none⟩ (.int .i64 t276)).setCell ⟨gb278, 2, none⟩ (.int .i64 t277))) ?hg ?ho ?hn ?hr ?_; (case ho => rfl); (case hg => rfl); (case hn => rfl); (case hr => first | (go_simp; done) | (go_simp; rfl)); intro w26 hw; replace HO_0 : Aside0 (Kd.V k36 36 w26 w.heap.size (fun k_ => (P0_ k_ ∨ w.heap.size ≤ k_) ∧ k_ ≠ gb278) (.slice A0 l0.length c0) l0) := ⟨(by rw [hw]; exact (by (with_reducible repeat (first | apply Kd.V_alloc | apply Kd.V_drewN | apply Kd.V_drew)); exact Kd.V_mono (Kd.V_far (p := ⟨gb278, 2, none⟩) (Kd.V_far (p := ⟨gb278, 1, none⟩) (Kd.V_far (p := ⟨gb278, 0, none⟩) (Kd.V_mono HO_0.out (fun k_ hk => (⟨hk, hk.2⟩ : _ ∧ k_ ≠ gb278))) (fun _ hk => hk.2) (.int .i64 t275)) (fun _ hk => hk.2) (.int .i64 t276)) (fun _ hk => hk.2) (.int .i64 t277)) (fun _ hk => ⟨hk.1.1, hk.1.2⟩)))⟩; replace HO273 : Aside0 (Kd.V (Kd.slice 36 k36) 22 w26 w.heap.size (fun k_ => (P0_ k_ ∨ w.heap.size ≤ k_) ∧ k_ ≠ gb278) v272 t271) := ⟨(by rw [hw]; exact (by (with_reducible repeat (first | apply Kd.V_alloc | apply Kd.V_drewN | apply Kd.V_drew)); exact Kd.V_mono (Kd.V_far (p := ⟨gb278, 2, none⟩) (Kd.V_far (p := ⟨gb278, 1, none⟩) (Kd.V_far (p := ⟨gb278, 0, none⟩) (Kd.V_mono HO273.out (fun k_ hk => (⟨hk, hk.2⟩ : _ ∧ k_ ≠ gb278))) (fun _ hk => hk.2) (.int .i64 t275)) (fun _ hk => hk.2) (.int .i64 t276)) (fun _ hk => hk.2) (.int .i64 t277)) (fun _ hk => ⟨hk.1.1, hk.1.2⟩)))⟩; replace BK278 : Aside0 (w26.heap[gb278]? = some (.cells #[.int .i64 t275, .int .i64 t276, .int .i64 t277] 30 (0, 0))) := ⟨(by rw [hw]; exact (by refine blk_put (cs := #[.int .i64 t275, .int .i64 t276, .int .i64 0]) ?_ 2 _ rfl; refine blk_put (cs := #[.int .i64 t275, .int .i64 0, .int .i64 0]) ?_ 1 _ rfl; refine blk_put (cs := #[.int .i64 0, .int .i64 0, .int .i64 0]) ?_ 0 _ rfl; exact BK278.out))⟩; replace HB : Aside0 (Below w.heap.size w w26) := ⟨(by rw [hw]; exact (by repeat (first | (with_reducible first | exact HB.out | apply bA_ | apply bN_ | apply bD_ | refine bS_ ?_ GE278.out) | exact HB.out)))⟩; clear hw) | (go_at_call 15; (with_reducible refine (orielref35_Replay.calls kj3 (fun k_ => ((P0_ k_ ∨ w.heap.size ≤ k_) ∧ k_ ≠ gb278)) _ _ l0 _ _ l1 t279 t282 t283 t284 t285 _ ?side1 ?side2 ?side3 A20.out).mono ?_); (case side1 => exact HO_0.out); (case side2 => repeat (first | exact (Kd.C_below HR1.out HB.out) | (with_reducible refine Kd.C_alloc ?_ _) | (with_reducible refine Kd.C_drewN ?_ _) | (with_reducible refine Kd.C_drew ?_))); (case side3 => exact HC1.out); rintro e w27 ⟨v280, rfl, ho0, hb⟩; have ho0 := Kd.N_mono (Kd.S_N ho0) (fun k_ hk => (Or.inr hk : (((P0_ k_ ∨ w.heap.size ≤ k_) ∧ k_ ≠ gb278)) ∨ _)); replace HO_0 := a0_ (Kd.V_elder' (by (with_reducible repeat (first | apply Kd.V_alloc | apply Kd.V_drewN | apply Kd.V_drew)); exact HO_0.out) (Kd.N_base ho0) hb); replace HO273 := a0_ (Kd.V_elder' (by (with_reducible repeat (first | apply Kd.V_alloc | apply Kd.V_drewN | apply Kd.V_drew)); exact HO273.out) (Kd.N_base ho0) hb); have HO281 := a0_ (Kd.N_lower (Kd.N_mono (ok' := fun k_ => (P0_ k_ ∨ w.heap.size ≤ k_) ∧ k_ ≠ gb278) ho0 (fun k_ hk_ => ⟨Or.elim hk_ (fun hs_ => hs_.1) (fun hn_ => (.inr (Nat.le_trans (bZ_ (by repeat (first | (with_reducible first | exact HB.out | apply bA_ | apply bN_ | apply bD_ | refine bS_ ?_ GE278.out) | exact HB.out))) hn_))), Or.elim hk_ (fun hs_ => hs_.2) (fun hn_ => (Kd.freshB (g := gb278) (o := .cells #[.int .i64 t275, .int .i64 t276, .int .i64 t277] 30 (0, 0)) (by exact BK278.out) k_ hn_))⟩)) (bZ_ (by repeat (first | (with_reducible first | exact HB.out | apply bA_ | apply bN_ | apply bD_ | refine bS_ ?_ GE278.out) | exact HB.out)))); replace BK278 := a0_ (kB_ (g := gb278) (o := .cells #[.int .i64 t275, .int .i64 t276, .int .i64 t277] 30 (0, 0)) (by exact BK278.out) hb); replace HB := a0_ (bT_ (by repeat (first | (with_reducible first | exact HB.out | apply bA_ | apply bN_ | apply bD_ | refine bS_ ?_ GE278.out) | exact HB.out)) hb); (try clear hb); (try clear hb2); (try clear hk); (try clear hi); (try clear ho0)) | ((with_reducible refine gate_dst (N := 12) rfl ?_); (try (refine gate_guard (by rfl) ?_; dsimp only)); refine box_event ?hg (N := 12) ?hd (cs := #[.int .i64 0, .int .i64 0, .int .i64 0]) (t := 30) ?hr ?_; (case hd => rfl); (case hg => rfl); (case hr => first | (go_simp; done) | (go_simp; rfl)); intro gb286 hg w28 hbox hb; replace HO_0 := a0_ (Kd.V_below (Kd.V_elderB (by (with_reducible repeat (first | apply Kd.V_alloc | apply Kd.V_drewN | apply Kd.V_drew)); exact HO_0.out) gb286 (Nat.le_of_eq hg.symm)) hb); replace HO273 := a0_ (Kd.V_below (Kd.V_elderB (by (with_reducible repeat (first | apply Kd.V_alloc | apply Kd.V_drewN | apply Kd.V_drew)); exact HO273.out) gb286 (Nat.le_of_eq hg.symm)) hb); replace HO281 := a0_ (Kd.N_below (Kd.N_elderB (by (with_reducible repeat (first | apply Kd.N_alloc | apply Kd.N_drewN | apply Kd.N_drew)); exact HO281.out) gb286 (Nat.le_of_eq hg.symm)) hb); have BK286 := a0_ (hbox); have GW286 := a0_ ((by rw [hg]; exact (bZ_ (by repeat (first | (with_reducible first | exact HB.out | apply bA_ | apply bN_ | apply bD_ | refine bS_ ?_ GE278.out) | exact HB.out))) : w.heap.size ≤ gb286)); have GE286 := a0_ ((by rw [hg]; exact (bZ_ (by repeat (first | (with_reducible first | exact HB.out | apply bA_ | apply bN_ | apply bD_ | refine bS_ ?_ GE278.out) | exact HB.out))) : w.heap.size ≤ gb286)); replace HB := a0_ (bT_ (by repeat (first | (with_reducible first | exact HB.out | apply bA_ | apply bN_ | apply bD_ | refine bS_ ?_ GE278.out) | exact HB.out)) hb); have NB278_286 := a0_ ((by rw [hg]; exact Nat.ne_of_lt (blk_lt (g := gb278) (o := .cells #[.int .i64 t275, .int .i64 t276, .int .i64 t277] 30 (0, 0)) (by exact BK278.out)) : gb278 ≠ gb286)); have NB286_278 := a0_ ((by rw [hg]; exact Nat.ne_of_gt (blk_lt (g := gb278) (o := .cells #[.int .i64 t275, .int .i64 t276, .int .i64 t277] 30 (0, 0)) (by exact BK278.out)) : gb286 ≠ gb278)); replace BK278 := a0_ (kB_ (g := gb278) (o := .cells #[.int .i64 t275, .int .i64 t276, .int .i64 t277] 30 (0, 0)) (by exact BK278.out) hb); clear hb hbox hg; have hnb29 := NB286_278.out; have hnc29 := NB278_286.out; have hcz30_0 : w28.cell? ⟨gb286, 0, none⟩ = some (.int .i64 0) := (blk_cell BK286.out 0).trans rfl; have hcz30_1 : w28.cell? ⟨gb286, 1, none⟩ = some (.int .i64 0) := (blk_cell BK286.out 1).trans rfl; have hcz30_2 : w28.cell? ⟨gb286, 2, none⟩ = some (.int .i64 0) := (blk_cell BK286.out 2).trans rfl; have hfz30_0 := kF_ BK286.out 0; have hfz30_1 := kF_ BK286.out 1; have hfz30_2 := kF_ BK286.out 2) | ((with_reducible refine gate_store (t := 30) (p := 12) rfl ?_); (try (rw [drewN_self w28]; generalize hq_ : World.drewN w28 _ = w28; have n0_ := a0_ (Kd.V_at hq_ HO_0.out); have n1_ := a0_ (Kd.V_at hq_ HO273.out); have n2_ := a0_ (Kd.N_at hq_ HO281.out); have n3_ := a0_ (blk_at hq_ BK278.out); have n4_ := a0_ (blk_at hq_ BK286.out); have n5_ := a0_ (below_at hq_ HB.out); clear hq_ HO_0 HO273 HO281 BK278 BK286 HB; have HO_0 := n0_; have HO273 := n1_; have HO281 := n2_; have BK278 := n3_; have BK286 := n4_; have HB := n5_; clear n0_ n1_ n2_ n3_ n4_ n5_)); refine store_event (t := 30) (p := 12) (v := ?vo_w31) (w1 := (((w28.setCell ⟨gb286, 0, none⟩ (.int .i64 t283)).setCell ⟨gb286, 1, none⟩ (.int .i64 t284)).setCell ⟨gb286, 2, none⟩ (.int .i64 t285))) ?hg ?ho ?hn ?hr ?_; (case ho => rfl); (case hg => rfl); (case hn => rfl); (case hr => first | (go_simp; done) | (go_simp; rfl)); intro w31 hw; replace HO_0 : Aside0 (Kd.V k36 36 w31 w.heap.size (fun k_ => (P0_ k_ ∨ w.heap.size ≤ k_) ∧ some k_ ≠ (v280 : Value).ownBlock ∧ k_ ≠ gb278 ∧ k_ ≠ gb286) (.slice A0 l0.length c0) l0) := ⟨(by rw [hw]; exact (by (with_reducible repeat (first | apply Kd.V_alloc | apply Kd.V_drewN | apply Kd.V_drew)); exact Kd.V_mono (Kd.V_far (p := ⟨gb286, 2, none⟩) (Kd.V_far (p := ⟨gb286, 1, none⟩) (Kd.V_far (p := ⟨gb286, 0, none⟩) (Kd.V_mono HO_0.out (fun k_ hk => (⟨hk, hk.2⟩ : _ ∧ k_ ≠ gb286))) (fun _ hk => hk.2) (.int .i64 t283)) (fun _ hk => hk.2) (.int .i64 t284)) (fun _ hk => hk.2) (.int .i64 t285)) (fun _ hk => ⟨hk.1.1.1.1, ⟨hk.1.1.2, ⟨hk.1.1.1.2, hk.1.2⟩⟩⟩)))⟩; replace HO273 : Aside0 (Kd.V (Kd.slice 36 k36) 22 w31 w.heap.size (fun k_ => (P0_ k_ ∨ w.heap.size ≤ k_) ∧ some k_ ≠ (v280 : Value).ownBlock ∧ k_ ≠ gb278 ∧ k_ ≠ gb286) v272 t271) := ⟨(by rw [hw]; exact (by (with_reducible repeat (first | apply Kd.V_alloc | apply Kd.V_drewN | apply Kd.V_drew)); exact Kd.V_mono (Kd.V_far (p := ⟨gb286, 2, none⟩) (Kd.V_far (p := ⟨gb286, 1, none⟩) (Kd.V_far (p := ⟨gb286, 0, none⟩) (Kd.V_mono HO273.out (fun k_ hk => (⟨hk, hk.2⟩ : _ ∧ k_ ≠ gb286))) (fun _ hk => hk.2) (.int .i64 t283)) (fun _ hk => hk.2) (.int .i64 t284)) (fun _ hk => hk.2) (.int .i64 t285)) (fun _ hk => ⟨hk.1.1.1.1, ⟨hk.1.1.2, ⟨hk.1.1.1.2, hk.1.2⟩⟩⟩)))⟩; replace HO281 : Aside0 (Kd.N (Kd.slice 36 k36) 22 w31 w.heap.size (fun k_ => (P0_ k_ ∨ w.heap.size ≤ k_) ∧ k_ ≠ gb278 ∧ k_ ≠ gb286) v280 t279) := ⟨(by rw [hw]; exact (by (with_reducible repeat (first | apply Kd.N_alloc | apply Kd.N_drewN | apply Kd.N_drew)); exact Kd.N_mono (Kd.N_far (p := ⟨gb286, 2, none⟩) (Kd.N_far (p := ⟨gb286, 1, none⟩) (Kd.N_far (p := ⟨gb286, 0, none⟩) (Kd.N_mono HO281.out (fun k_ hk => (⟨hk, hk.2⟩ : _ ∧ k_ ≠ gb286))) (fun _ hk => hk.2) (.int .i64 t283)) (fun _ hk => hk.2) (.int .i64 t284)) (fun _ hk => hk.2) (.int .i64 t285)) (fun _ hk => ⟨hk.1.1.1, ⟨hk.1.1.2, hk.1.2⟩⟩)))⟩; replace BK278 : Aside0 (w31.heap[gb278]? = some (.cells #[.int .i64 t275, .int .i64 t276, .int .i64 t277] 30 (0, 0))) := ⟨(by rw [hw]; exact (by refine blk_far ?_ NB278_286.out _; refine blk_far ?_ NB278_286.out _; refine blk_far ?_ NB278_286.out _; exact BK278.out))⟩; replace BK286 : Aside0 (w31.heap[gb286]? = some (.cells #[.int .i64 t283, .int .i64 t284, .int .i64 t285] 30 (0, 0))) := ⟨(by rw [hw]; exact (by refine blk_put (cs := #[.int .i64 t283, .int .i64 t284, .int .i64 0]) ?_ 2 _ rfl; refine blk_put (cs := #[.int .i64 t283, .int .i64 0, .int .i64 0]) ?_ 1 _ rfl; refine blk_put (cs := #[.int .i64 0, .int .i64 0, .int .i64 0]) ?_ 0 _ rfl; exact BK286.out))⟩; replace HB : Aside0 (Below w.heap.size w w31) := ⟨(by rw [hw]; exact (by repeat (first | (with_reducible first | exact HB.out | apply bA_ | apply bN_ | apply bD_ | refine bS_ ?_ GE278.out | refine bS_ ?_ GE286.out) | exact HB.out)))⟩; clear hw) | (go_at_call 10; (with_reducible refine (merge_Net.calls kj3 _ _ l0 _ _ l1 t287 t290 t291 t292 t293 _ ?side1 ?side2 ?side3 ?side4 A21.out).mono ?_); (case side1 => repeat (first | exact (Kd.V_reads' HO_0.out).2.2 | (with_reducible refine Kd.C_alloc ?_ _) | (with_reducible refine Kd.C_drewN ?_ _) | (with_reducible refine Kd.C_drew ?_))); (case side2 => exact (Kd.V_reads' HO_0.out).2.1); (case side3 => repeat (first | exact (Kd.C_below HR1.out HB.out) | (with_reducible refine Kd.C_alloc ?_ _) | (with_reducible refine Kd.C_drewN ?_ _) | (with_reducible refine Kd.C_drew ?_))); (case side4 => exact HC1.out); rintro e w32 ⟨v288, rfl, ho0, hb⟩; replace HO_0 := a0_ (Kd.V_elder' (by (with_reducible repeat (first | apply Kd.V_alloc | apply Kd.V_drewN | apply Kd.V_drew)); exact HO_0.out) (Kd.R_base ho0) hb); replace HO273 := a0_ (Kd.V_elder' (by (with_reducible repeat (first | apply Kd.V_alloc | apply Kd.V_drewN | apply Kd.V_drew)); exact HO273.out) (Kd.R_base ho0) hb); replace HO281 := a0_ (Kd.N_elder' (by (with_reducible repeat (first | apply Kd.N_alloc | apply Kd.N_drewN | apply Kd.N_drew)); exact HO281.out) (Kd.R_base ho0) hb); have HO289 := a0_ (Kd.R_lower (Kd.R_newM (M := fun k_ => (w.heap.size ≤ k_)) ho0 (bZ_ (by repeat (first | (with_reducible first | exact HB.out | apply bA_ | apply bN_ | apply bD_ | refine bS_ ?_ GE278.out | refine bS_ ?_ GE286.out) | exact HB.out))) (fun k_ h_ => h_)) (bZ_ (by repeat (first | (with_reducible first | exact HB.out | apply bA_ | apply bN_ | apply bD_ | refine bS_ ?_ GE278.out | refine bS_ ?_ GE286.out) | exact HB.out)))); replace BK278 := a0_ (kB_ (g := gb278) (o := .cells #[.int .i64 t275, .int .i64 t276, .int .i64 t277] 30 (0, 0)) (by exact BK278.out) hb); replace BK286 := a0_ (kB_ (g := gb286) (o := .cells #[.int .i64 t283, .int .i64 t284, .int .i64 t285] 30 (0, 0)) (by exact BK286.out) hb); replace HB := a0_ (bT_ (by repeat (first | (with_reducible first | exact HB.out | apply bA_ | apply bN_ | apply bD_ | refine bS_ ?_ GE278.out | refine bS_ ?_ GE286.out) | exact HB.out)) hb); (try clear hb); (try clear hb2); (try clear hk); (try clear hi); (try clear ho0)) | ((with_reducible refine gate_dst (N := 15) rfl ?_); (try (refine gate_guard (by rfl) ?_; dsimp only)); refine box_event ?hg (N := 15) ?hd (cs := #[.int .i64 0, .int .i64 0, .int .i64 0]) (t := 30) ?hr ?_; (case hd => rfl); (case hg => rfl); (case hr => first | (go_simp; done) | (go_simp; rfl)); intro gb294 hg w33 hbox hb; replace HO_0 := a0_ (Kd.V_below (Kd.V_elderB (by (with_reducible repeat (first | apply Kd.V_alloc | apply Kd.V_drewN | apply Kd.V_drew)); exact HO_0.out) gb294 (Nat.le_of_eq hg.symm)) hb); replace HO273 := a0_ (Kd.V_below (Kd.V_elderB (by (with_reducible repeat (first | apply Kd.V_alloc | apply Kd.V_drewN | apply Kd.V_drew)); exact HO273.out) gb294 (Nat.le_of_eq hg.symm)) hb); replace HO281 := a0_ (Kd.N_below (Kd.N_elderB (by (with_reducible repeat (first | apply Kd.N_alloc | apply Kd.N_drewN | apply Kd.N_drew)); exact HO281.out) gb294 (Nat.le_of_eq hg.symm)) hb); replace HO289 := a0_ (Kd.R_below (by (with_reducible repeat (first | apply Kd.R_alloc | apply Kd.R_drewN | apply Kd.R_drew)); exact HO289.out) hb); have BK294 := a0_ (hbox); have GW294 := a0_ ((by rw [hg]; exact (bZ_ (by repeat (first | (with_reducible first | exact HB.out | apply bA_ | apply bN_ | apply bD_ | refine bS_ ?_ GE278.out | refine bS_ ?_ GE286.out) | exact HB.out))) : w.heap.size ≤ gb294)); have GE294 := a0_ ((by rw [hg]; exact (bZ_ (by repeat (first | (with_reducible first | exact HB.out | apply bA_ | apply bN_ | apply bD_ | refine bS_ ?_ GE278.out | refine bS_ ?_ GE286.out) | exact HB.out))) : w.heap.size ≤ gb294)); replace HB := a0_ (bT_ (by repeat (first | (with_reducible first | exact HB.out | apply bA_ | apply bN_ | apply bD_ | refine bS_ ?_ GE278.out | refine bS_ ?_ GE286.out) | exact HB.out)) hb); have NB278_294 := a0_ ((by rw [hg]; exact Nat.ne_of_lt (blk_lt (g := gb278) (o := .cells #[.int .i64 t275, .int .i64 t276, .int .i64 t277] 30 (0, 0)) (by exact BK278.out)) : gb278 ≠ gb294)); have NB294_278 := a0_ ((by rw [hg]; exact Nat.ne_of_gt (blk_lt (g := gb278) (o := .cells #[.int .i64 t275, .int .i64 t276, .int .i64 t277] 30 (0, 0)) (by exact BK278.out)) : gb294 ≠ gb278)); replace BK278 := a0_ (kB_ (g := gb278) (o := .cells #[.int .i64 t275, .int .i64 t276, .int .i64 t277] 30 (0, 0)) (by exact BK278.out) hb); have NB286_294 := a0_ ((by rw [hg]; exact Nat.ne_of_lt (blk_lt (g := gb286) (o := .cells #[.int .i64 t283, .int .i64 t284, .int .i64 t285] 30 (0, 0)) (by exact BK286.out)) : gb286 ≠ gb294)); have NB294_286 := a0_ ((by rw [hg]; exact Nat.ne_of_gt (blk_lt (g := gb286) (o := .cells #[.int .i64 t283, .int .i64 t284, .int .i64 t285] 30 (0, 0)) (by exact BK286.out)) : gb294 ≠ gb286)); replace BK286 := a0_ (kB_ (g := gb286) (o := .cells #[.int .i64 t283, .int .i64 t284, .int .i64 t285] 30 (0, 0)) (by exact BK286.out) hb); clear hb hbox hg; have hnb34 := NB294_278.out; have hnc34 := NB278_294.out; have hnb35 := NB294_286.out; have hnc35 := NB286_294.out; have hcz36_0 : w33.cell? ⟨gb294, 0, none⟩ = some (.int .i64 0) := (blk_cell BK294.out 0).trans rfl; have hcz36_1 : w33.cell? ⟨gb294, 1, none⟩ = some (.int .i64 0) := (blk_cell BK294.out 1).trans rfl; have hcz36_2 : w33.cell? ⟨gb294, 2, none⟩ = some (.int .i64 0) := (blk_cell BK294.out 2).trans rfl; have hfz36_0 := kF_ BK294.out 0; have hfz36_1 := kF_ BK294.out 1; have hfz36_2 := kF_ BK294.out 2))
    (try simp only [Act.put, List.setIfInBounds_toArray, List.set_cons_zero, List.set_cons_succ])
    go_cut [81] (fun v81 wc => ∃ (kq : Nat) (x81_21 : Bool), v81 = .bool x81_21 ∧ Aside0 (oriellaw35_MergeReplays.j1 kq l0 l2 t271 t279 t287 x81_21 t283 t284 t285 = some r) ∧ Aside0 (kq ≤ kj3) ∧ Aside0 (Kd.V k36 36 wc w.heap.size (fun k_ => (P0_ k_ ∨ w.heap.size ≤ k_) ∧ some k_ ≠ (v280 : Value).ownBlock ∧ some k_ ≠ (v288 : Value).ownBlock ∧ k_ ≠ gb278 ∧ k_ ≠ gb286 ∧ k_ ≠ gb294) (.slice A0 l0.length c0) l0) ∧ Aside0 (Kd.V (Kd.slice 36 k36) 22 wc w.heap.size (fun k_ => (P0_ k_ ∨ w.heap.size ≤ k_) ∧ some k_ ≠ (v280 : Value).ownBlock ∧ some k_ ≠ (v288 : Value).ownBlock ∧ k_ ≠ gb278 ∧ k_ ≠ gb286 ∧ k_ ≠ gb294) v272 t271) ∧ Aside0 (Kd.N (Kd.slice 36 k36) 22 wc w.heap.size (fun k_ => (P0_ k_ ∨ w.heap.size ≤ k_) ∧ some k_ ≠ (v288 : Value).ownBlock ∧ k_ ≠ gb278 ∧ k_ ≠ gb286 ∧ k_ ≠ gb294) v280 t279) ∧ Aside0 (Kd.R k34 34 wc w.heap.size (fun k_ => (w.heap.size ≤ k_)) v288 t287) ∧ Aside0 (wc.heap[gb278]? = some (.cells #[.int .i64 t275, .int .i64 t276, .int .i64 t277] 30 (0, 0))) ∧ Aside0 (wc.heap[gb286]? = some (.cells #[.int .i64 t283, .int .i64 t284, .int .i64 t285] 30 (0, 0))) ∧ Aside0 (wc.heap[gb294]? = some (.cells #[.int .i64 t291, .int .i64 t292, .int .i64 t293] 30 (0, 0))) ∧ Aside0 (Below w.heap.size w wc))
    case first =>
     have H := HC22.out
     clear HC22
     by_cases c37 : t274 = t282
     ·rw [if_pos c37] at H
      have c37b0 : (t274 == t282) = true := beq_iff_eq.mpr c37
      have c37b1 : (t274 != t282) = false := bne_eq_false_iff_eq.mpr c37
      clear c37
      (first | rw [c37b0] | (simp only [i64_w, i32_w]; rw [c37b0]) | skip)
      by_cases c38 : (!(t275 == t283) || (!(t276 == t284) || (!(t277 == t285)))) = true
      ·rw [if_pos c38] at H
       exact absurd H (by simp)
      ·rw [if_neg c38] at H
       have c38b0 : (!(t275 == t283) || (!(t276 == t284) || (!(t277 == t285)))) = false := by simpa using c38
       clear c38
       by_cases c39 : t290 = t282
       ·rw [if_pos c39] at H
        have c39b0 : (t290 == t282) = true := beq_iff_eq.mpr c39
        have c39b1 : (t290 != t282) = false := bne_eq_false_iff_eq.mpr c39
        clear c39
        by_cases c40 : (!(t291 == t283) || (!(t292 == t284) || (!(t293 == t285)))) = true
        ·rw [if_pos c40] at H
         exact absurd H (by simp)
        ·rw [if_neg c40] at H
         have c40b0 : (!(t291 == t283) || (!(t292 == t284) || (!(t293 == t285)))) = false := by simpa using c40
         clear c40
         have H' := a0_ H
         clear H
         have hnb41 := NB278_286.out
         have hnc41 := NB286_278.out
         have hnb42 := NB278_294.out
         have hnc42 := NB294_278.out
         have hcz43_0 : w33.cell? ⟨gb278, 0, none⟩ = some (.int .i64 t275) := (blk_cell BK278.out 0).trans rfl
         have hcz43_1 : w33.cell? ⟨gb278, 1, none⟩ = some (.int .i64 t276) := (blk_cell BK278.out 1).trans rfl
         have hcz43_2 : w33.cell? ⟨gb278, 2, none⟩ = some (.int .i64 t277) := (blk_cell BK278.out 2).trans rfl
         have hfz43_0 := kF_ BK278.out 0
         have hfz43_1 := kF_ BK278.out 1
         have hfz43_2 := kF_ BK278.out 2
         have hnb44 := NB286_294.out
         have hnc44 := NB294_286.out
         have hcz45_0 : w33.cell? ⟨gb286, 0, none⟩ = some (.int .i64 t283) := (blk_cell BK286.out 0).trans rfl
         have hcz45_1 : w33.cell? ⟨gb286, 1, none⟩ = some (.int .i64 t284) := (blk_cell BK286.out 1).trans rfl
         have hcz45_2 : w33.cell? ⟨gb286, 2, none⟩ = some (.int .i64 t285) := (blk_cell BK286.out 2).trans rfl
         have hfz45_0 := kF_ BK286.out 0
         have hfz45_1 := kF_ BK286.out 1
         have hfz45_2 := kF_ BK286.out 2
         have hcz46_0 : w33.cell? ⟨gb294, 0, none⟩ = some (.int .i64 0) := (blk_cell BK294.out 0).trans rfl
         have hcz46_1 : w33.cell? ⟨gb294, 1, none⟩ = some (.int .i64 0) := (blk_cell BK294.out 1).trans rfl
         have hcz46_2 : w33.cell? ⟨gb294, 2, none⟩ = some (.int .i64 0) := (blk_cell BK294.out 2).trans rfl
         have hfz46_0 := kF_ BK294.out 0
         have hfz46_1 := kF_ BK294.out 1
         have hfz46_2 := kF_ BK294.out 2
         obtain ⟨Ao47, co47, eo47⟩ := Kd.V_slice HO273.out
         subst eo47
         obtain ⟨Ao48, co48, eo48⟩ := Kd.N_slice HO281.out
         subst eo48
         go_wp2
         repeat (go_quiet (fail); try go_wp2)
         go_meet
         case rel => exact ⟨_, (((t271.length : Int) != (t279.length : Int))), (by first | rfl | (simp; done) | (simp [*]; done)), H', ⟨by have := HJ3.out; first | omega | exact Nat.le_refl _⟩, ⟨by (with_reducible repeat (first | apply Kd.V_alloc | apply Kd.V_drewN | apply Kd.V_drew)); exact Kd.V_mono (Kd.V_far (p := ⟨gb294, 2, none⟩) (Kd.V_far (p := ⟨gb294, 1, none⟩) (Kd.V_far (p := ⟨gb294, 0, none⟩) (Kd.V_mono HO_0.out (fun k_ hk => (⟨hk, hk.2⟩ : _ ∧ k_ ≠ gb294))) (fun _ hk => hk.2) (.int .i64 t291)) (fun _ hk => hk.2) (.int .i64 t292)) (fun _ hk => hk.2) (.int .i64 t293)) (fun _ hk => ⟨hk.1.1.1.1, ⟨hk.1.1.1.2.1, ⟨hk.1.1.2, ⟨hk.1.1.1.2.2.1, ⟨hk.1.1.1.2.2.2, hk.1.2⟩⟩⟩⟩⟩)⟩, ⟨by (with_reducible repeat (first | apply Kd.V_alloc | apply Kd.V_drewN | apply Kd.V_drew)); exact Kd.V_mono (Kd.V_far (p := ⟨gb294, 2, none⟩) (Kd.V_far (p := ⟨gb294, 1, none⟩) (Kd.V_far (p := ⟨gb294, 0, none⟩) (Kd.V_mono HO273.out (fun k_ hk => (⟨hk, hk.2⟩ : _ ∧ k_ ≠ gb294))) (fun _ hk => hk.2) (.int .i64 t291)) (fun _ hk => hk.2) (.int .i64 t292)) (fun _ hk => hk.2) (.int .i64 t293)) (fun _ hk => ⟨hk.1.1.1.1, ⟨hk.1.1.1.2.1, ⟨hk.1.1.2, ⟨hk.1.1.1.2.2.1, ⟨hk.1.1.1.2.2.2, hk.1.2⟩⟩⟩⟩⟩)⟩, ⟨by (with_reducible repeat (first | apply Kd.N_alloc | apply Kd.N_drewN | apply Kd.N_drew)); exact Kd.N_mono (Kd.N_far (p := ⟨gb294, 2, none⟩) (Kd.N_far (p := ⟨gb294, 1, none⟩) (Kd.N_far (p := ⟨gb294, 0, none⟩) (Kd.N_mono HO281.out (fun k_ hk => (⟨hk, hk.2⟩ : _ ∧ k_ ≠ gb294))) (fun _ hk => hk.2) (.int .i64 t291)) (fun _ hk => hk.2) (.int .i64 t292)) (fun _ hk => hk.2) (.int .i64 t293)) (fun _ hk => ⟨hk.1.1.1.1, ⟨hk.1.1.2, ⟨hk.1.1.1.2.1, ⟨hk.1.1.1.2.2, hk.1.2⟩⟩⟩⟩)⟩, ⟨by (with_reducible repeat (first | apply Kd.R_alloc | apply Kd.R_drewN | apply Kd.R_drew)); exact Kd.R_mono (Kd.R_far (p := ⟨gb294, 2, none⟩) (Kd.R_far (p := ⟨gb294, 1, none⟩) (Kd.R_far (p := ⟨gb294, 0, none⟩) (Kd.R_types HO289.out BK294.out (by decide)) (fun _ hk => hk.2) (.int .i64 t291)) (fun _ hk => hk.2) (.int .i64 t292)) (fun _ hk => hk.2) (.int .i64 t293)) (fun _ hk => hk.1.1)⟩, ⟨by refine blk_far ?_ NB278_294.out _; refine blk_far ?_ NB278_294.out _; refine blk_far ?_ NB278_294.out _; exact BK278.out⟩, ⟨by refine blk_far ?_ NB286_294.out _; refine blk_far ?_ NB286_294.out _; refine blk_far ?_ NB286_294.out _; exact BK286.out⟩, ⟨by refine blk_put (cs := #[.int .i64 t291, .int .i64 t292, .int .i64 0]) ?_ 2 _ rfl; refine blk_put (cs := #[.int .i64 t291, .int .i64 0, .int .i64 0]) ?_ 1 _ rfl; refine blk_put (cs := #[.int .i64 0, .int .i64 0, .int .i64 0]) ?_ 0 _ rfl; exact BK294.out⟩, ⟨by repeat (first | (with_reducible first | exact HB.out | apply bA_ | apply bN_ | apply bD_ | refine bS_ ?_ GE278.out | refine bS_ ?_ GE286.out | refine bS_ ?_ GE294.out) | exact HB.out)⟩⟩
       ·rw [if_neg c39] at H
        exact absurd H (by simp)
     ·rw [if_neg c37] at H
      exact absurd H (by simp)
    case rest =>
     clear HC22
     obtain ⟨kq, x81_21, rfl, HA, HJ21, HO_0, HO_7, HO_10, HO_13, BK278, BK286, BK294, HB⟩ := hcut
     cases kq with
     | zero => exact absurd HA.out (by simp [oriellaw35_MergeReplays.j1])
     | succ kj21 =>
      have H := HA.out
      clear HA
      simp only [oriellaw35_MergeReplays.j1] at H
      by_cases c49 : x81_21 = true
      ·subst c49
       have H1 : (none) = some r := by rw [if_pos rfl] at H; exact H
       clear H
       have H := H1
       clear H1
       exact absurd H (by simp)
      ·replace c49 := Bool.eq_false_iff.mpr c49
       subst c49
       have H1 : (oriellaw35_MergeReplays.l0 kj21 l0 l2 t271 t279 t287 (t271.length : Int) 0 t283 t284 t285) = some r := by rw [if_neg (show ¬ (false = true) by decide)] at H; exact H
       clear H
       have H := H1
       clear H1
       have H' := a0_ H
       clear H
       obtain ⟨Ao50, co50, eo50⟩ := Kd.V_slice HO_7.out
       subst eo50
       go_wp2
       repeat (go_quiet (fail); try go_wp2)
       go_loopg [84] kj21 (fun kq v84 w' => ∃ (x84_3 : Int), v84 = .int .i64 x84_3 ∧ Aside0 (oriellaw35_MergeReplays.l0 kq l0 l2 t271 t279 t287 (t271.length : Int) x84_3 t283 t284 t285 = some r) ∧ Aside0 (kq ≤ kj21) ∧ Aside0 (Kd.V k36 36 w' w.heap.size (fun k_ => (P0_ k_ ∨ w.heap.size ≤ k_) ∧ some k_ ≠ (v280 : Value).ownBlock ∧ some k_ ≠ (v288 : Value).ownBlock ∧ k_ ≠ gb278 ∧ k_ ≠ gb286 ∧ k_ ≠ gb294) (.slice A0 l0.length c0) l0) ∧ Aside0 (Kd.V (Kd.slice 36 k36) 22 w' w.heap.size (fun k_ => (P0_ k_ ∨ w.heap.size ≤ k_) ∧ some k_ ≠ (v280 : Value).ownBlock ∧ some k_ ≠ (v288 : Value).ownBlock ∧ k_ ≠ gb278 ∧ k_ ≠ gb286 ∧ k_ ≠ gb294) (.slice Ao50 t271.length co50) t271) ∧ Aside0 (Kd.N (Kd.slice 36 k36) 22 w' w.heap.size (fun k_ => (P0_ k_ ∨ w.heap.size ≤ k_) ∧ some k_ ≠ (v288 : Value).ownBlock ∧ k_ ≠ gb278 ∧ k_ ≠ gb286 ∧ k_ ≠ gb294) v280 t279) ∧ Aside0 (Kd.R k34 34 w' w.heap.size (fun k_ => (w.heap.size ≤ k_)) v288 t287) ∧ Aside0 (w'.heap[gb278]? = some (.cells #[.int .i64 t275, .int .i64 t276, .int .i64 t277] 30 (0, 0))) ∧ Aside0 (w'.heap[gb286]? = some (.cells #[.int .i64 t283, .int .i64 t284, .int .i64 t285] 30 (0, 0))) ∧ Aside0 (w'.heap[gb294]? = some (.cells #[.int .i64 t291, .int .i64 t292, .int .i64 t293] 30 (0, 0))) ∧ Aside0 (Below w.heap.size w w'))
       case atStart => exact ⟨(0), (by first | rfl | (simp; done) | (simp [*]; done)), H', ⟨Nat.le_refl _⟩, ⟨by (with_reducible repeat (first | apply Kd.V_alloc | apply Kd.V_drewN | apply Kd.V_drew)); exact HO_0.out⟩, ⟨by (with_reducible repeat (first | apply Kd.V_alloc | apply Kd.V_drewN | apply Kd.V_drew)); exact HO_7.out⟩, ⟨by (with_reducible repeat (first | apply Kd.N_alloc | apply Kd.N_drewN | apply Kd.N_drew)); exact HO_10.out⟩, ⟨by (with_reducible repeat (first | apply Kd.R_alloc | apply Kd.R_drewN | apply Kd.R_drew)); exact HO_13.out⟩, ⟨by exact BK278.out⟩, ⟨by exact BK286.out⟩, ⟨by exact BK294.out⟩, ⟨by repeat (first | (with_reducible first | exact HB.out | apply bA_ | apply bN_ | apply bD_ | refine bS_ ?_ GE278.out | refine bS_ ?_ GE286.out | refine bS_ ?_ GE294.out) | exact HB.out)⟩⟩
       case round =>
        clear H'
        obtain ⟨x84_3, rfl, HA, HK3, HO_0, HO_7, HO_10, HO_13, BK278, BK286, BK294, HB⟩ := hrel
        cases gk with
        | zero => exact absurd HA.out (by simp [oriellaw35_MergeReplays.l0])
        | succ k3 =>
         have H := HA.out
         clear HA
         simp only [oriellaw35_MergeReplays.l0] at H
         by_cases c51 : x84_3 < (t271.length : Int)
         ·rw [if_pos c51] at H
          have c51b0 := decide_eq_true c51
          clear c51
          by_cases c52 : 0 ≤ x84_3
          ·rw [if_pos c52] at H
           have c52b0 := decide_eq_true c52
           clear c52
           by_cases c53 : x84_3 < (t271.length : Int)
           ·rw [if_pos c53] at H
            have c53b0 := decide_eq_true c53
            clear c53
            by_cases c54 : x84_3 < (t279.length : Int)
            ·rw [if_pos c54] at H
             have c54b0 := decide_eq_true c54
             clear c54
             replace H := ob_ H
             obtain ⟨t297, A550, H⟩ := H
             replace H : (if t297 = true then (oriellaw35_MergeReplays.l0 k3 l0 l2 t271 t279 t287 (t271.length : Int) (wrap64 (x84_3 + 1)) t283 t284 t285) else (none)) = some r := H
             have A55 := a0_ A550
             clear A550
             by_cases c56 : t297 = true
             ·subst c56
              have H1 : (oriellaw35_MergeReplays.l0 k3 l0 l2 t271 t279 t287 (t271.length : Int) (wrap64 (x84_3 + 1)) t283 t284 t285) = some r := by rw [if_pos rfl] at H; exact H
              clear H
              have H := H1
              clear H1
              have H' := a0_ H
              clear H
              have p295 : 0 ≤ (x84_3 : Int) := od_ (by assumption)
              have q295 : x84_3 < (t271.length : Int) := od_ (by assumption)
              obtain ⟨ad295, A295_0, c295_0, e295, hx295_0, hl295_0, hi295_0⟩ := at_L7 (Kd.V_reads' HO_7.out).2.2 x84_3 p295 q295
              cases e295
              obtain ⟨ce295, hce295, hMe295, hcc295⟩ := Kd.V_get HO_7.out [] x84_3 p295 (by first | exact q295 | exact od_ (by assumption) | (have e_ := (Kd.V_reads' HO_7.out).1; omega))
              obtain ⟨ua295_0, uc295_0, rfl, ul295_0, ge295_0⟩ := Kd.FK_slice_open hMe295
              have hv295_0 := hcc295 0 _ rfl
              rw [Nat.add_zero, show ((Kd.slice 36 k36)).sz = 1 from rfl, Nat.mul_one] at hv295_0
              replace hv295_0 := Option.some.inj (hv295_0.symm.trans hx295_0)
              injection hv295_0 with hva_ hvn_ hvc_
              rw [hva_] at ge295_0
              rw [hvc_] at ul295_0
              have HL295_0 := a0_ (show Kd.V k36 36 _ w.heap.size _ _ (rd_L7 t271 x84_3) from Kd.V_mk ul295_0 ge295_0)
              clear hva_ hvn_ hvc_ ge295_0 ul295_0
              clear hcc295 hce295
              have HR295_0 := a0_ hi295_0
              have HC295_0 := a0_ hl295_0
              clear hi295_0 hl295_0
              replace p295 := eq_true p295
              replace q295 := eq_true q295
              obtain ⟨Ao57, co57, eo57⟩ := Kd.N_slice HO_10.out
              subst eo57
              have p296 : 0 ≤ (x84_3 : Int) := od_ (by assumption)
              have q296 : x84_3 < (t279.length : Int) := od_ (by assumption)
              obtain ⟨ad296, A296_0, c296_0, e296, hx296_0, hl296_0, hi296_0⟩ := at_L7 (Kd.N_reads' HO_10.out).2.2 x84_3 p296 q296
              cases e296
              obtain ⟨ce296, hce296, hMe296, hcc296⟩ := Kd.N_get HO_10.out [] x84_3 p296 (by first | exact q296 | exact od_ (by assumption) | (have e_ := (Kd.N_reads' HO_10.out).1; omega))
              obtain ⟨ua296_0, uc296_0, rfl, ul296_0, ge296_0⟩ := Kd.FK_slice_open hMe296
              have hv296_0 := hcc296 0 _ rfl
              rw [Nat.add_zero, show ((Kd.slice 36 k36)).sz = 1 from rfl, Nat.mul_one] at hv296_0
              replace hv296_0 := Option.some.inj (hv296_0.symm.trans hx296_0)
              injection hv296_0 with hva_ hvn_ hvc_
              rw [hva_] at ge296_0
              rw [hvc_] at ul296_0
              have HL296_0 := a0_ (show Kd.V k36 36 _ w.heap.size _ _ (rd_L7 t279 x84_3) from Kd.V_mk ul296_0 ge296_0)
              clear hva_ hvn_ hvc_ ge296_0 ul296_0
              clear hcc296 hce296
              have HR296_0 := a0_ hi296_0
              have HC296_0 := a0_ hl296_0
              clear hi296_0 hl296_0
              replace p296 := eq_true p296
              replace q296 := eq_true q296
              go_wp2_with (first | (go_at_call 16; (with_reducible refine (orielref17_Files.calls k3 _ _ (rd_L7 t271 x84_3) _ _ (rd_L7 t279 x84_3) true _ ?side1 ?side2 ?side3 ?side4 A55.out).mono ?_); (case side1 => repeat (first | exact (by repeat (first | (with_reducible exact HR295_0.out) | (with_reducible refine Kd.C_alloc ?_ _) | (with_reducible refine Kd.C_drewN ?_ _) | (with_reducible refine Kd.C_drew ?_) | exact HR295_0.out)) | (with_reducible refine Kd.C_alloc ?_ _) | (with_reducible refine Kd.C_drewN ?_ _) | (with_reducible refine Kd.C_drew ?_))); (case side2 => exact HC295_0.out); (case side3 => repeat (first | exact (by repeat (first | (with_reducible exact HR296_0.out) | (with_reducible refine Kd.C_alloc ?_ _) | (with_reducible refine Kd.C_drewN ?_ _) | (with_reducible refine Kd.C_drew ?_) | exact HR296_0.out)) | (with_reducible refine Kd.C_alloc ?_ _) | (with_reducible refine Kd.C_drewN ?_ _) | (with_reducible refine Kd.C_drew ?_))); (case side4 => exact HC296_0.out); rintro e w' ⟨rfl, ⟨nd, rfl⟩⟩; (try first | exact ⟨rfl, _, World.drewN_drewN _ _ _⟩ | exact ⟨rfl, _, Eq.trans (World.drewN_drewN _ _ _) (congrArg (World.drewN _) (Nat.add_assoc _ _ _))⟩)))
              repeat (go_quiet (first | (go_at_call 16; (with_reducible refine (orielref17_Files.calls k3 _ _ (rd_L7 t271 x84_3) _ _ (rd_L7 t279 x84_3) true _ ?side1 ?side2 ?side3 ?side4 A55.out).mono ?_); (case side1 => repeat (first | exact (by repeat (first | (with_reducible exact HR295_0.out) | (with_reducible refine Kd.C_alloc ?_ _) | (with_reducible refine Kd.C_drewN ?_ _) | (with_reducible refine Kd.C_drew ?_) | exact HR295_0.out)) | (with_reducible refine Kd.C_alloc ?_ _) | (with_reducible refine Kd.C_drewN ?_ _) | (with_reducible refine Kd.C_drew ?_))); (case side2 => exact HC295_0.out); (case side3 => repeat (first | exact (by repeat (first | (with_reducible exact HR296_0.out) | (with_reducible refine Kd.C_alloc ?_ _) | (with_reducible refine Kd.C_drewN ?_ _) | (with_reducible refine Kd.C_drew ?_) | exact HR296_0.out)) | (with_reducible refine Kd.C_alloc ?_ _) | (with_reducible refine Kd.C_drewN ?_ _) | (with_reducible refine Kd.C_drew ?_))); (case side4 => exact HC296_0.out); rintro e w' ⟨rfl, ⟨nd, rfl⟩⟩; (try first | exact ⟨rfl, _, World.drewN_drewN _ _ _⟩ | exact ⟨rfl, _, Eq.trans (World.drewN_drewN _ _ _) (congrArg (World.drewN _) (Nat.add_assoc _ _ _))⟩))); try go_wp2_with (first | (go_at_call 16; (with_reducible refine (orielref17_Files.calls k3 _ _ (rd_L7 t271 x84_3) _ _ (rd_L7 t279 x84_3) true _ ?side1 ?side2 ?side3 ?side4 A55.out).mono ?_); (case side1 => repeat (first | exact (by repeat (first | (with_reducible exact HR295_0.out) | (with_reducible refine Kd.C_alloc ?_ _) | (with_reducible refine Kd.C_drewN ?_ _) | (with_reducible refine Kd.C_drew ?_) | exact HR295_0.out)) | (with_reducible refine Kd.C_alloc ?_ _) | (with_reducible refine Kd.C_drewN ?_ _) | (with_reducible refine Kd.C_drew ?_))); (case side2 => exact HC295_0.out); (case side3 => repeat (first | exact (by repeat (first | (with_reducible exact HR296_0.out) | (with_reducible refine Kd.C_alloc ?_ _) | (with_reducible refine Kd.C_drewN ?_ _) | (with_reducible refine Kd.C_drew ?_) | exact HR296_0.out)) | (with_reducible refine Kd.C_alloc ?_ _) | (with_reducible refine Kd.C_drewN ?_ _) | (with_reducible refine Kd.C_drew ?_))); (case side4 => exact HC296_0.out); rintro e w' ⟨rfl, ⟨nd, rfl⟩⟩; (try first | exact ⟨rfl, _, World.drewN_drewN _ _ _⟩ | exact ⟨rfl, _, Eq.trans (World.drewN_drewN _ _ _) (congrArg (World.drewN _) (Nat.add_assoc _ _ _))⟩))))
              go_roundg k3
              case measure => have := HJ3.out; have := HJ21.out; have := HK3.out; omega
              case rel => exact ⟨(wrap64 (x84_3 + 1)), (by first | rfl | (simp; done) | (simp [*]; done)), H', ⟨by have := HJ3.out; have := HJ21.out; have := HK3.out; omega⟩, ⟨by (with_reducible repeat (first | apply Kd.V_alloc | apply Kd.V_drewN | apply Kd.V_drew)); exact HO_0.out⟩, ⟨by (with_reducible repeat (first | apply Kd.V_alloc | apply Kd.V_drewN | apply Kd.V_drew)); exact HO_7.out⟩, ⟨by (with_reducible repeat (first | apply Kd.N_alloc | apply Kd.N_drewN | apply Kd.N_drew)); exact HO_10.out⟩, ⟨by (with_reducible repeat (first | apply Kd.R_alloc | apply Kd.R_drewN | apply Kd.R_drew)); exact HO_13.out⟩, ⟨by exact BK278.out⟩, ⟨by exact BK286.out⟩, ⟨by exact BK294.out⟩, ⟨by repeat (first | (with_reducible first | exact HB.out | apply bA_ | apply bN_ | apply bD_ | refine bS_ ?_ GE278.out | refine bS_ ?_ GE286.out | refine bS_ ?_ GE294.out) | exact HB.out)⟩⟩
             ·replace c56 := Bool.eq_false_iff.mpr c56
              subst c56
              have H1 : (none) = some r := by rw [if_neg (show ¬ (false = true) by decide)] at H; exact H
              clear H
              have H := H1
              clear H1
              exact absurd H (by simp)
            ·rw [if_neg c54] at H
             exact absurd H (by simp)
           ·rw [if_neg c53] at H
            exact absurd H (by simp)
          ·rw [if_neg c52] at H
           exact absurd H (by simp)
         ·rw [if_neg c51] at H
          have c51b0 := decide_eq_false c51
          clear c51
          by_cases c58 : (!(t283 == 0) || (!(t284 == 0) || (!(t285 == 0)))) = true
          ·rw [if_pos c58] at H
           have c58b0 : (!(t283 == 0) || (!(t284 == 0) || (!(t285 == 0)))) = true := c58
           clear c58
           by_cases c59 : (t287.length : Int) = 0
           ·rw [if_pos c59] at H
            have c59b0 : ((t287.length : Int) == 0) = true := beq_iff_eq.mpr c59
            have c59b1 : ((t287.length : Int) != 0) = false := bne_eq_false_iff_eq.mpr c59
            clear c59
            replace H := ob_ H
            obtain ⟨t298, A600, H⟩ := H
            replace H : (some t298) = some r := H
            have A60 := a0_ A600
            clear A600
            obtain rfl := Option.some.inj H
            have hnb61 := NB286_278.out
            have hnc61 := NB278_286.out
            have hnb62 := NB286_294.out
            have hnc62 := NB294_286.out
            have hcz63_0 : wr.cell? ⟨gb286, 0, none⟩ = some (.int .i64 t283) := (blk_cell BK286.out 0).trans rfl
            have hcz63_1 : wr.cell? ⟨gb286, 1, none⟩ = some (.int .i64 t284) := (blk_cell BK286.out 1).trans rfl
            have hcz63_2 : wr.cell? ⟨gb286, 2, none⟩ = some (.int .i64 t285) := (blk_cell BK286.out 2).trans rfl
            have hfz63_0 := kF_ BK286.out 0
            have hfz63_1 := kF_ BK286.out 1
            have hfz63_2 := kF_ BK286.out 2
            obtain ⟨Ao64, co64, eo64⟩ := Kd.R_slice HO_13.out
            subst eo64
            go_wp2_with (first | (go_at_call 9; (with_reducible refine (oriellaw35_alive.calls k3  t298 _ A60.out).mono ?_); rintro e w65 ⟨rfl, hb⟩; replace HO_0 := a0_ (Kd.V_below (by (with_reducible repeat (first | apply Kd.V_alloc | apply Kd.V_drewN | apply Kd.V_drew)); exact HO_0.out) hb); replace HO_7 := a0_ (Kd.V_below (by (with_reducible repeat (first | apply Kd.V_alloc | apply Kd.V_drewN | apply Kd.V_drew)); exact HO_7.out) hb); replace HO_10 := a0_ (Kd.N_below (by (with_reducible repeat (first | apply Kd.N_alloc | apply Kd.N_drewN | apply Kd.N_drew)); exact HO_10.out) hb); replace HO_13 := a0_ (Kd.R_below (by (with_reducible repeat (first | apply Kd.R_alloc | apply Kd.R_drewN | apply Kd.R_drew)); exact HO_13.out) hb); replace BK278 := a0_ (kB_ (g := gb278) (o := .cells #[.int .i64 t275, .int .i64 t276, .int .i64 t277] 30 (0, 0)) (by exact BK278.out) hb); replace BK286 := a0_ (kB_ (g := gb286) (o := .cells #[.int .i64 t283, .int .i64 t284, .int .i64 t285] 30 (0, 0)) (by exact BK286.out) hb); replace BK294 := a0_ (kB_ (g := gb294) (o := .cells #[.int .i64 t291, .int .i64 t292, .int .i64 t293] 30 (0, 0)) (by exact BK294.out) hb); replace HB := a0_ (bT_ (by repeat (first | (with_reducible first | exact HB.out | apply bA_ | apply bN_ | apply bD_ | refine bS_ ?_ GE278.out | refine bS_ ?_ GE286.out | refine bS_ ?_ GE294.out) | exact HB.out)) hb); (try clear hb); (try clear hb2); (try clear hk); (try clear hi)))
            go_ret
            exact ⟨by first | rfl | (simp [errW_none, errW_some] <;> rfl) | (simp [*, errW_none, errW_some] <;> rfl), by repeat (first | (with_reducible first | exact HB.out | apply bA_ | apply bN_ | apply bD_ | refine bS_ ?_ GE278.out | refine bS_ ?_ GE286.out | refine bS_ ?_ GE294.out) | exact HB.out)⟩
           ·rw [if_neg c59] at H
            exact absurd H (by simp)
          ·rw [if_neg c58] at H
           have c58b0 : (!(t283 == 0) || (!(t284 == 0) || (!(t285 == 0)))) = false := by simpa using c58
           clear c58
           have HC66 := a0_ H
           clear H
           have hnb67 := NB286_278.out
           have hnc67 := NB278_286.out
           have hnb68 := NB286_294.out
           have hnc68 := NB294_286.out
           have hcz69_0 : wr.cell? ⟨gb286, 0, none⟩ = some (.int .i64 t283) := (blk_cell BK286.out 0).trans rfl
           have hcz69_1 : wr.cell? ⟨gb286, 1, none⟩ = some (.int .i64 t284) := (blk_cell BK286.out 1).trans rfl
           have hcz69_2 : wr.cell? ⟨gb286, 2, none⟩ = some (.int .i64 t285) := (blk_cell BK286.out 2).trans rfl
           have hfz69_0 := kF_ BK286.out 0
           have hfz69_1 := kF_ BK286.out 1
           have hfz69_2 := kF_ BK286.out 2
           obtain ⟨Ao70, co70, eo70⟩ := Kd.N_slice HO_10.out
           subst eo70
           go_upto_if 110 with (fail)
           repeat (go_quiet (fail); go_upto_if 110 with (fail))
           go_cut [17] (fun v17 wc => ∃ (kq : Nat) (x17_65 : List (S36)), Aside0 (oriellaw35_MergeReplays.j3 kq l0 l2 t287 x17_65 = some r) ∧ Aside0 (kq ≤ k3) ∧ Aside0 (Kd.V k36 36 wc w.heap.size (fun k_ => (P0_ k_ ∨ w.heap.size ≤ k_) ∧ some k_ ≠ (v288 : Value).ownBlock ∧ k_ ≠ gb278 ∧ k_ ≠ gb286 ∧ k_ ≠ gb294) (.slice A0 l0.length c0) l0) ∧ Aside0 (Kd.R k34 34 wc w.heap.size (fun k_ => (w.heap.size ≤ k_)) v288 t287) ∧ Aside0 (Kd.V k36 36 wc w.heap.size (fun k_ => (P0_ k_ ∨ w.heap.size ≤ k_) ∧ some k_ ≠ (v288 : Value).ownBlock ∧ k_ ≠ gb278 ∧ k_ ≠ gb286 ∧ k_ ≠ gb294) v17 x17_65) ∧ Aside0 (wc.heap[gb278]? = some (.cells #[.int .i64 t275, .int .i64 t276, .int .i64 t277] 30 (0, 0))) ∧ Aside0 (wc.heap[gb286]? = some (.cells #[.int .i64 t283, .int .i64 t284, .int .i64 t285] 30 (0, 0))) ∧ Aside0 (wc.heap[gb294]? = some (.cells #[.int .i64 t291, .int .i64 t292, .int .i64 t293] 30 (0, 0))) ∧ Aside0 (Below w.heap.size w wc))
           case first =>
            have H := HC66.out
            clear HC66
            by_cases c71 : (t279.length : Int) > 0
            ·rw [if_pos c71] at H
             have c71b0 := decide_eq_true c71
             have c71b1 : decide (0 < t279.length) = true := decide_eq_true (by omega)
             have c71k_ : 0 < t279.length := by omega
             clear c71
             (first | rw [c71b0] | (simp only [i64_w, i32_w]; rw [c71b0]) | skip)
             obtain ⟨ji72, hji72⟩ : ∃ j_ : Int, (wrap64 ((t279.length : Int) - 1)) = j_ := ⟨_, rfl⟩
             replace H : (if 0 ≤ (ji72) then (if (ji72) < (t279.length : Int) then (oriellaw35_MergeReplays.j3 k3 l0 l2 t287 (rd_L7 t279 (ji72))) else (none)) else (none)) = some r := by first | (rw [hji72] at H; exact H) | (simp only [hji72] at H ⊢; exact H)
             have hji72w : (IntKind.i64.wrap ((t279.length : Int) - 1)) = ji72 := (i64_w _).trans hji72
             by_cases c73 : 0 ≤ (ji72)
             ·rw [if_pos c73] at H
              have c73b0 := decide_eq_true c73
              clear c73
              by_cases c74 : (ji72) < (t279.length : Int)
              ·rw [if_pos c74] at H
               have c74b0 := decide_eq_true c74
               clear c74
               have H' := a0_ H
               clear H
               have p299 : 0 ≤ ((ji72) : Int) := od_ (by assumption)
               have q299 : (ji72) < (t279.length : Int) := od_ (by assumption)
               obtain ⟨ad299, A299_0, c299_0, e299, hx299_0, hl299_0, hi299_0⟩ := at_L7 (Kd.N_reads' HO_10.out).2.2 (ji72) p299 q299
               cases e299
               obtain ⟨ce299, hce299, hMe299, hcc299⟩ := Kd.N_get HO_10.out [] (ji72) p299 (by first | exact q299 | exact od_ (by assumption) | (have e_ := (Kd.N_reads' HO_10.out).1; omega))
               obtain ⟨ua299_0, uc299_0, rfl, ul299_0, ge299_0⟩ := Kd.FK_slice_open hMe299
               have hv299_0 := hcc299 0 _ rfl
               rw [Nat.add_zero, show ((Kd.slice 36 k36)).sz = 1 from rfl, Nat.mul_one] at hv299_0
               replace hv299_0 := Option.some.inj (hv299_0.symm.trans hx299_0)
               injection hv299_0 with hva_ hvn_ hvc_
               rw [hva_] at ge299_0
               rw [hvc_] at ul299_0
               have HL299_0 := a0_ (show Kd.V k36 36 _ w.heap.size _ _ (rd_L7 t279 (ji72)) from Kd.V_mk ul299_0 ge299_0)
               clear hva_ hvn_ hvc_ ge299_0 ul299_0
               clear hcc299 hce299
               have HR299_0 := a0_ hi299_0
               have HC299_0 := a0_ hl299_0
               clear hi299_0 hl299_0
               replace p299 := eq_true p299
               replace q299 := eq_true q299
               go_wp2
               try go_wp2
               try go_wp2
               try go_wp2
               repeat (go_quiet (fail); try go_wp2)
               go_meet
               case rel => exact ⟨_, (rd_L7 t279 (ji72)), H', ⟨by have := HJ3.out; have := HJ21.out; have := HK3.out; first | omega | exact Nat.le_refl _⟩, ⟨by (with_reducible repeat (first | apply Kd.V_alloc | apply Kd.V_drewN | apply Kd.V_drew)); exact Kd.V_mono HO_0.out (fun _ hk => ⟨hk.1, ⟨hk.2.2.1, ⟨hk.2.2.2.1, ⟨hk.2.2.2.2.1, hk.2.2.2.2.2⟩⟩⟩⟩)⟩, ⟨by (with_reducible repeat (first | apply Kd.R_alloc | apply Kd.R_drewN | apply Kd.R_drew)); exact HO_13.out⟩, ⟨by (with_reducible repeat (first | apply Kd.V_alloc | apply Kd.V_drewN | apply Kd.V_drew)); exact Kd.V_mono HL299_0.out (fun _ hk => ⟨hk.1.1, ⟨hk.1.2.1, ⟨hk.1.2.2.1, ⟨hk.1.2.2.2.1, hk.1.2.2.2.2⟩⟩⟩⟩)⟩, ⟨by exact BK278.out⟩, ⟨by exact BK286.out⟩, ⟨by exact BK294.out⟩, ⟨by repeat (first | (with_reducible first | exact HB.out | apply bA_ | apply bN_ | apply bD_ | refine bS_ ?_ GE278.out | refine bS_ ?_ GE286.out | refine bS_ ?_ GE294.out) | exact HB.out)⟩⟩
              ·rw [if_neg c74] at H
               exact absurd H (by simp)
             ·rw [if_neg c73] at H
              exact absurd H (by simp)
            ·rw [if_neg c71] at H
             have c71b0 := decide_eq_false c71
             have c71b1 : decide (0 < t279.length) = false := decide_eq_false (by omega)
             have c71k_ : ¬ (0 < t279.length) := by omega
             clear c71
             (first | rw [c71b0] | (simp only [i64_w, i32_w]; rw [c71b0]) | skip)
             have H' := a0_ H
             clear H
             go_wp2
             try go_wp2
             try go_wp2
             try go_wp2
             repeat (go_quiet (fail); try go_wp2)
             go_meet
             case rel => exact ⟨_, (l0), H', ⟨by have := HJ3.out; have := HJ21.out; have := HK3.out; first | omega | exact Nat.le_refl _⟩, ⟨by (with_reducible repeat (first | apply Kd.V_alloc | apply Kd.V_drewN | apply Kd.V_drew)); exact Kd.V_mono HO_0.out (fun _ hk => ⟨hk.1, ⟨hk.2.2.1, ⟨hk.2.2.2.1, ⟨hk.2.2.2.2.1, hk.2.2.2.2.2⟩⟩⟩⟩)⟩, ⟨by (with_reducible repeat (first | apply Kd.R_alloc | apply Kd.R_drewN | apply Kd.R_drew)); exact HO_13.out⟩, ⟨by (with_reducible repeat (first | apply Kd.V_alloc | apply Kd.V_drewN | apply Kd.V_drew)); exact Kd.V_mono HO_0.out (fun _ hk => ⟨hk.1, ⟨hk.2.2.1, ⟨hk.2.2.2.1, ⟨hk.2.2.2.2.1, hk.2.2.2.2.2⟩⟩⟩⟩)⟩, ⟨by exact BK278.out⟩, ⟨by exact BK286.out⟩, ⟨by exact BK294.out⟩, ⟨by repeat (first | (with_reducible first | exact HB.out | apply bA_ | apply bN_ | apply bD_ | refine bS_ ?_ GE278.out | refine bS_ ?_ GE286.out | refine bS_ ?_ GE294.out) | exact HB.out)⟩⟩
           case rest =>
            clear HC66
            obtain ⟨kq, x17_65, HA, HJ65, HO_0, HO_13, HO_17, BK278, BK286, BK294, HB⟩ := hcut
            cases kq with
            | zero => exact absurd HA.out (by simp [oriellaw35_MergeReplays.j3])
            | succ kj65 =>
             have H := HA.out
             clear HA
             simp only [oriellaw35_MergeReplays.j3] at H
             replace H := ob_ H
             obtain ⟨⟨t300, t303, t304, t305⟩, A750, H⟩ := H
             dsimp only at H
             have A75 := a0_ A750
             clear A750
             replace H := ob_ H
             obtain ⟨⟨t307, t310, t311, t312⟩, A760, H⟩ := H
             dsimp only at H
             have A76 := a0_ A760
             clear A760
             have HC77 := a0_ H
             clear H
             go_upto_region 21 with (first | (go_at_call 11; (with_reducible refine (orielref17_Apply.calls kj65 _ _ l0 _ _ l2 t300 t303 t304 t305 _ ?side1 ?side2 ?side3 ?side4 A75.out).mono ?_); (case side1 => repeat (first | exact (Kd.V_reads' HO_0.out).2.2 | (with_reducible refine Kd.C_alloc ?_ _) | (with_reducible refine Kd.C_drewN ?_ _) | (with_reducible refine Kd.C_drew ?_))); (case side2 => exact (Kd.V_reads' HO_0.out).2.1); (case side3 => repeat (first | exact (Kd.C_below HR2.out HB.out) | (with_reducible refine Kd.C_alloc ?_ _) | (with_reducible refine Kd.C_drewN ?_ _) | (with_reducible refine Kd.C_drew ?_))); (case side4 => exact HC2.out); rintro e w78 ⟨v301, rfl, ho0, hb⟩; replace HO_0 := a0_ (Kd.V_elder' (by (with_reducible repeat (first | apply Kd.V_alloc | apply Kd.V_drewN | apply Kd.V_drew)); exact HO_0.out) (Kd.R_base ho0) hb); replace HO_13 := a0_ (Kd.R_below (by (with_reducible repeat (first | apply Kd.R_alloc | apply Kd.R_drewN | apply Kd.R_drew)); exact HO_13.out) hb); replace HO_17 := a0_ (Kd.V_elder' (by (with_reducible repeat (first | apply Kd.V_alloc | apply Kd.V_drewN | apply Kd.V_drew)); exact HO_17.out) (Kd.R_base ho0) hb); have HO302 := a0_ (Kd.R_lower (Kd.R_newM (M := fun k_ => (w.heap.size ≤ k_)) ho0 (bZ_ (by repeat (first | (with_reducible first | exact HB.out | apply bA_ | apply bN_ | apply bD_ | refine bS_ ?_ GE278.out | refine bS_ ?_ GE286.out | refine bS_ ?_ GE294.out) | exact HB.out))) (fun k_ h_ => h_)) (bZ_ (by repeat (first | (with_reducible first | exact HB.out | apply bA_ | apply bN_ | apply bD_ | refine bS_ ?_ GE278.out | refine bS_ ?_ GE286.out | refine bS_ ?_ GE294.out) | exact HB.out)))); replace BK278 := a0_ (kB_ (g := gb278) (o := .cells #[.int .i64 t275, .int .i64 t276, .int .i64 t277] 30 (0, 0)) (by exact BK278.out) hb); replace BK286 := a0_ (kB_ (g := gb286) (o := .cells #[.int .i64 t283, .int .i64 t284, .int .i64 t285] 30 (0, 0)) (by exact BK286.out) hb); replace BK294 := a0_ (kB_ (g := gb294) (o := .cells #[.int .i64 t291, .int .i64 t292, .int .i64 t293] 30 (0, 0)) (by exact BK294.out) hb); replace HB := a0_ (bT_ (by repeat (first | (with_reducible first | exact HB.out | apply bA_ | apply bN_ | apply bD_ | refine bS_ ?_ GE278.out | refine bS_ ?_ GE286.out | refine bS_ ?_ GE294.out) | exact HB.out)) hb); (try clear hb); (try clear hb2); (try clear hk); (try clear hi); (try clear ho0)) | ((with_reducible refine gate_dst (N := 19) rfl ?_); (try (refine gate_guard (by rfl) ?_; dsimp only)); refine box_event ?hg (N := 19) ?hd (cs := #[.int .i64 0, .int .i64 0, .int .i64 0]) (t := 30) ?hr ?_; (case hd => rfl); (case hg => rfl); (case hr => first | (go_simp; done) | (go_simp; rfl)); intro gb306 hg w79 hbox hb; replace HO_0 := a0_ (Kd.V_below (Kd.V_elderB (by (with_reducible repeat (first | apply Kd.V_alloc | apply Kd.V_drewN | apply Kd.V_drew)); exact HO_0.out) gb306 (Nat.le_of_eq hg.symm)) hb); replace HO_13 := a0_ (Kd.R_below (by (with_reducible repeat (first | apply Kd.R_alloc | apply Kd.R_drewN | apply Kd.R_drew)); exact HO_13.out) hb); replace HO_17 := a0_ (Kd.V_below (Kd.V_elderB (by (with_reducible repeat (first | apply Kd.V_alloc | apply Kd.V_drewN | apply Kd.V_drew)); exact HO_17.out) gb306 (Nat.le_of_eq hg.symm)) hb); replace HO302 := a0_ (Kd.R_below (by (with_reducible repeat (first | apply Kd.R_alloc | apply Kd.R_drewN | apply Kd.R_drew)); exact HO302.out) hb); have BK306 := a0_ (hbox); have GW306 := a0_ ((by rw [hg]; exact (bZ_ (by repeat (first | (with_reducible first | exact HB.out | apply bA_ | apply bN_ | apply bD_ | refine bS_ ?_ GE278.out | refine bS_ ?_ GE286.out | refine bS_ ?_ GE294.out) | exact HB.out))) : w.heap.size ≤ gb306)); have GE306 := a0_ ((by rw [hg]; exact (bZ_ (by repeat (first | (with_reducible first | exact HB.out | apply bA_ | apply bN_ | apply bD_ | refine bS_ ?_ GE278.out | refine bS_ ?_ GE286.out | refine bS_ ?_ GE294.out) | exact HB.out))) : w.heap.size ≤ gb306)); replace HB := a0_ (bT_ (by repeat (first | (with_reducible first | exact HB.out | apply bA_ | apply bN_ | apply bD_ | refine bS_ ?_ GE278.out | refine bS_ ?_ GE286.out | refine bS_ ?_ GE294.out) | exact HB.out)) hb); have NB278_306 := a0_ ((by rw [hg]; exact Nat.ne_of_lt (blk_lt (g := gb278) (o := .cells #[.int .i64 t275, .int .i64 t276, .int .i64 t277] 30 (0, 0)) (by exact BK278.out)) : gb278 ≠ gb306)); have NB306_278 := a0_ ((by rw [hg]; exact Nat.ne_of_gt (blk_lt (g := gb278) (o := .cells #[.int .i64 t275, .int .i64 t276, .int .i64 t277] 30 (0, 0)) (by exact BK278.out)) : gb306 ≠ gb278)); replace BK278 := a0_ (kB_ (g := gb278) (o := .cells #[.int .i64 t275, .int .i64 t276, .int .i64 t277] 30 (0, 0)) (by exact BK278.out) hb); have NB286_306 := a0_ ((by rw [hg]; exact Nat.ne_of_lt (blk_lt (g := gb286) (o := .cells #[.int .i64 t283, .int .i64 t284, .int .i64 t285] 30 (0, 0)) (by exact BK286.out)) : gb286 ≠ gb306)); have NB306_286 := a0_ ((by rw [hg]; exact Nat.ne_of_gt (blk_lt (g := gb286) (o := .cells #[.int .i64 t283, .int .i64 t284, .int .i64 t285] 30 (0, 0)) (by exact BK286.out)) : gb306 ≠ gb286)); replace BK286 := a0_ (kB_ (g := gb286) (o := .cells #[.int .i64 t283, .int .i64 t284, .int .i64 t285] 30 (0, 0)) (by exact BK286.out) hb); have NB294_306 := a0_ ((by rw [hg]; exact Nat.ne_of_lt (blk_lt (g := gb294) (o := .cells #[.int .i64 t291, .int .i64 t292, .int .i64 t293] 30 (0, 0)) (by exact BK294.out)) : gb294 ≠ gb306)); have NB306_294 := a0_ ((by rw [hg]; exact Nat.ne_of_gt (blk_lt (g := gb294) (o := .cells #[.int .i64 t291, .int .i64 t292, .int .i64 t293] 30 (0, 0)) (by exact BK294.out)) : gb306 ≠ gb294)); replace BK294 := a0_ (kB_ (g := gb294) (o := .cells #[.int .i64 t291, .int .i64 t292, .int .i64 t293] 30 (0, 0)) (by exact BK294.out) hb); clear hb hbox hg; have hnb80 := NB306_278.out; have hnc80 := NB278_306.out; have hnb81 := NB306_286.out; have hnc81 := NB286_306.out; have hnb82 := NB306_294.out; have hnc82 := NB294_306.out; have hcz83_0 : w79.cell? ⟨gb306, 0, none⟩ = some (.int .i64 0) := (blk_cell BK306.out 0).trans rfl; have hcz83_1 : w79.cell? ⟨gb306, 1, none⟩ = some (.int .i64 0) := (blk_cell BK306.out 1).trans rfl; have hcz83_2 : w79.cell? ⟨gb306, 2, none⟩ = some (.int .i64 0) := (blk_cell BK306.out 2).trans rfl; have hfz83_0 := kF_ BK306.out 0; have hfz83_1 := kF_ BK306.out 1; have hfz83_2 := kF_ BK306.out 2) | ((with_reducible refine gate_store (t := 30) (p := 19) rfl ?_); (try (rw [drewN_self w79]; generalize hq_ : World.drewN w79 _ = w79; have n0_ := a0_ (Kd.V_at hq_ HO_0.out); have n1_ := a0_ (Kd.R_at hq_ HO_13.out); have n2_ := a0_ (Kd.V_at hq_ HO_17.out); have n3_ := a0_ (Kd.R_at hq_ HO302.out); have n4_ := a0_ (blk_at hq_ BK278.out); have n5_ := a0_ (blk_at hq_ BK286.out); have n6_ := a0_ (blk_at hq_ BK294.out); have n7_ := a0_ (blk_at hq_ BK306.out); have n8_ := a0_ (below_at hq_ HB.out); clear hq_ HO_0 HO_13 HO_17 HO302 BK278 BK286 BK294 BK306 HB; have HO_0 := n0_; have HO_13 := n1_; have HO_17 := n2_; have HO302 := n3_; have BK278 := n4_; have BK286 := n5_; have BK294 := n6_; have BK306 := n7_; have HB := n8_; clear n0_ n1_ n2_ n3_ n4_ n5_ n6_ n7_ n8_)); refine store_event (t := 30) (p := 19) (v := ?vo_w84) (w1 := (((w79.setCell ⟨gb306, 0, none⟩ (.int .i64 t303)).setCell ⟨gb306, 1, none⟩ (.int .i64 t304)).setCell ⟨gb306, 2, none⟩ (.int .i64 t305))) ?hg ?ho ?hn ?hr ?_; (case ho => rfl); (case hg => rfl); (case hn => rfl); (case hr => first | (go_simp; done) | (go_simp; rfl)); intro w84 hw; replace HO_0 : Aside0 (Kd.V k36 36 w84 w.heap.size (fun k_ => (P0_ k_ ∨ w.heap.size ≤ k_) ∧ some k_ ≠ (v288 : Value).ownBlock ∧ some k_ ≠ (v301 : Value).ownBlock ∧ k_ ≠ gb278 ∧ k_ ≠ gb286 ∧ k_ ≠ gb294 ∧ k_ ≠ gb306) (.slice A0 l0.length c0) l0) := ⟨(by rw [hw]; exact (by (with_reducible repeat (first | apply Kd.V_alloc | apply Kd.V_drewN | apply Kd.V_drew)); exact Kd.V_mono (Kd.V_far (p := ⟨gb306, 2, none⟩) (Kd.V_far (p := ⟨gb306, 1, none⟩) (Kd.V_far (p := ⟨gb306, 0, none⟩) (Kd.V_mono HO_0.out (fun k_ hk => (⟨hk, hk.2⟩ : _ ∧ k_ ≠ gb306))) (fun _ hk => hk.2) (.int .i64 t303)) (fun _ hk => hk.2) (.int .i64 t304)) (fun _ hk => hk.2) (.int .i64 t305)) (fun _ hk => ⟨hk.1.1.1.1, ⟨hk.1.1.1.2.1, ⟨hk.1.1.2, ⟨hk.1.1.1.2.2.1, ⟨hk.1.1.1.2.2.2.1, ⟨hk.1.1.1.2.2.2.2, hk.1.2⟩⟩⟩⟩⟩⟩)))⟩; replace HO_13 : Aside0 (Kd.R k34 34 w84 w.heap.size (fun k_ => (w.heap.size ≤ k_)) v288 t287) := ⟨(by rw [hw]; exact (by (with_reducible repeat (first | apply Kd.R_alloc | apply Kd.R_drewN | apply Kd.R_drew)); exact Kd.R_mono (Kd.R_far (p := ⟨gb306, 2, none⟩) (Kd.R_far (p := ⟨gb306, 1, none⟩) (Kd.R_far (p := ⟨gb306, 0, none⟩) (Kd.R_types HO_13.out BK306.out (by decide)) (fun _ hk => hk.2) (.int .i64 t303)) (fun _ hk => hk.2) (.int .i64 t304)) (fun _ hk => hk.2) (.int .i64 t305)) (fun _ hk => hk.1)))⟩; replace HO_17 : Aside0 (Kd.V k36 36 w84 w.heap.size (fun k_ => (P0_ k_ ∨ w.heap.size ≤ k_) ∧ some k_ ≠ (v288 : Value).ownBlock ∧ some k_ ≠ (v301 : Value).ownBlock ∧ k_ ≠ gb278 ∧ k_ ≠ gb286 ∧ k_ ≠ gb294 ∧ k_ ≠ gb306) u17 x17_65) := ⟨(by rw [hw]; exact (by (with_reducible repeat (first | apply Kd.V_alloc | apply Kd.V_drewN | apply Kd.V_drew)); exact Kd.V_mono (Kd.V_far (p := ⟨gb306, 2, none⟩) (Kd.V_far (p := ⟨gb306, 1, none⟩) (Kd.V_far (p := ⟨gb306, 0, none⟩) (Kd.V_mono HO_17.out (fun k_ hk => (⟨hk, hk.2⟩ : _ ∧ k_ ≠ gb306))) (fun _ hk => hk.2) (.int .i64 t303)) (fun _ hk => hk.2) (.int .i64 t304)) (fun _ hk => hk.2) (.int .i64 t305)) (fun _ hk => ⟨hk.1.1.1.1, ⟨hk.1.1.1.2.1, ⟨hk.1.1.2, ⟨hk.1.1.1.2.2.1, ⟨hk.1.1.1.2.2.2.1, ⟨hk.1.1.1.2.2.2.2, hk.1.2⟩⟩⟩⟩⟩⟩)))⟩; replace HO302 : Aside0 (Kd.R k36 36 w84 w.heap.size (fun k_ => (w.heap.size ≤ k_)) v301 t300) := ⟨(by rw [hw]; exact (by (with_reducible repeat (first | apply Kd.R_alloc | apply Kd.R_drewN | apply Kd.R_drew)); exact Kd.R_mono (Kd.R_far (p := ⟨gb306, 2, none⟩) (Kd.R_far (p := ⟨gb306, 1, none⟩) (Kd.R_far (p := ⟨gb306, 0, none⟩) (Kd.R_types HO302.out BK306.out (by decide)) (fun _ hk => hk.2) (.int .i64 t303)) (fun _ hk => hk.2) (.int .i64 t304)) (fun _ hk => hk.2) (.int .i64 t305)) (fun _ hk => hk.1.1)))⟩; replace BK278 : Aside0 (w84.heap[gb278]? = some (.cells #[.int .i64 t275, .int .i64 t276, .int .i64 t277] 30 (0, 0))) := ⟨(by rw [hw]; exact (by refine blk_far ?_ NB278_306.out _; refine blk_far ?_ NB278_306.out _; refine blk_far ?_ NB278_306.out _; exact BK278.out))⟩; replace BK286 : Aside0 (w84.heap[gb286]? = some (.cells #[.int .i64 t283, .int .i64 t284, .int .i64 t285] 30 (0, 0))) := ⟨(by rw [hw]; exact (by refine blk_far ?_ NB286_306.out _; refine blk_far ?_ NB286_306.out _; refine blk_far ?_ NB286_306.out _; exact BK286.out))⟩; replace BK294 : Aside0 (w84.heap[gb294]? = some (.cells #[.int .i64 t291, .int .i64 t292, .int .i64 t293] 30 (0, 0))) := ⟨(by rw [hw]; exact (by refine blk_far ?_ NB294_306.out _; refine blk_far ?_ NB294_306.out _; refine blk_far ?_ NB294_306.out _; exact BK294.out))⟩; replace BK306 : Aside0 (w84.heap[gb306]? = some (.cells #[.int .i64 t303, .int .i64 t304, .int .i64 t305] 30 (0, 0))) := ⟨(by rw [hw]; exact (by refine blk_put (cs := #[.int .i64 t303, .int .i64 t304, .int .i64 0]) ?_ 2 _ rfl; refine blk_put (cs := #[.int .i64 t303, .int .i64 0, .int .i64 0]) ?_ 1 _ rfl; refine blk_put (cs := #[.int .i64 0, .int .i64 0, .int .i64 0]) ?_ 0 _ rfl; exact BK306.out))⟩; replace HB : Aside0 (Below w.heap.size w w84) := ⟨(by rw [hw]; exact (by repeat (first | (with_reducible first | exact HB.out | apply bA_ | apply bN_ | apply bD_ | refine bS_ ?_ GE278.out | refine bS_ ?_ GE286.out | refine bS_ ?_ GE294.out | refine bS_ ?_ GE306.out) | exact HB.out)))⟩; clear hw) | (go_at_call 17; (with_reducible refine (merge_Tight.calls kj65 _ _ l0 (fun k_ => k_ < w.heap.size) _ _ l2 t307 t310 t311 t312 _ ?side1 ?side2 ?side3 A76.out).mono ?_); (case side1 => repeat (first | exact (Kd.V_reads' HO_0.out).2.2 | (with_reducible refine Kd.C_alloc ?_ _) | (with_reducible refine Kd.C_drewN ?_ _) | (with_reducible refine Kd.C_drew ?_))); (case side2 => exact (Kd.V_reads' HO_0.out).2.1); (case side3 => exact Kd.V_mk HC2.out (Kd.F_below (Kd.C_F k34_heap HR2.out) (by repeat (first | (with_reducible first | exact HB.out | apply bA_ | apply bN_ | apply bD_ | refine bS_ ?_ GE278.out | refine bS_ ?_ GE286.out | refine bS_ ?_ GE294.out | refine bS_ ?_ GE306.out) | exact HB.out)))); rintro e w85 ⟨v308, rfl, ho0, hb⟩; replace HO_0 := a0_ (Kd.V_elder' (by (with_reducible repeat (first | apply Kd.V_alloc | apply Kd.V_drewN | apply Kd.V_drew)); exact HO_0.out) (Kd.R_base ho0) hb); replace HO_17 := a0_ (Kd.V_elder' (by (with_reducible repeat (first | apply Kd.V_alloc | apply Kd.V_drewN | apply Kd.V_drew)); exact HO_17.out) (Kd.R_base ho0) hb); replace HO302 := a0_ (Kd.R_below (by (with_reducible repeat (first | apply Kd.R_alloc | apply Kd.R_drewN | apply Kd.R_drew)); exact HO302.out) hb); have HO309 := a0_ (Kd.R_lower (Kd.R_new' (Kd.R_newM (M := fun k_ => (w.heap.size ≤ k_)) (Kd.R_mono (ok' := fun k_ => True) ho0 (fun _ hk_ => trivial)) (bZ_ (by repeat (first | (with_reducible first | exact HB.out | apply bA_ | apply bN_ | apply bD_ | refine bS_ ?_ GE278.out | refine bS_ ?_ GE286.out | refine bS_ ?_ GE294.out | refine bS_ ?_ GE306.out) | exact HB.out))) (fun k_ h_ => h_)) (Kd.R_lt (by (with_reducible repeat (first | apply Kd.R_alloc | apply Kd.R_drewN | apply Kd.R_drew)); exact HO_13.out))) (bZ_ (by repeat (first | (with_reducible first | exact HB.out | apply bA_ | apply bN_ | apply bD_ | refine bS_ ?_ GE278.out | refine bS_ ?_ GE286.out | refine bS_ ?_ GE294.out | refine bS_ ?_ GE306.out) | exact HB.out)))); replace HO_13 := a0_ (Kd.R_elder' (by (with_reducible repeat (first | apply Kd.R_alloc | apply Kd.R_drewN | apply Kd.R_drew)); exact HO_13.out) (Kd.R_base ho0) hb); replace BK278 := a0_ (kB_ (g := gb278) (o := .cells #[.int .i64 t275, .int .i64 t276, .int .i64 t277] 30 (0, 0)) (by exact BK278.out) hb); replace BK286 := a0_ (kB_ (g := gb286) (o := .cells #[.int .i64 t283, .int .i64 t284, .int .i64 t285] 30 (0, 0)) (by exact BK286.out) hb); replace BK294 := a0_ (kB_ (g := gb294) (o := .cells #[.int .i64 t291, .int .i64 t292, .int .i64 t293] 30 (0, 0)) (by exact BK294.out) hb); replace BK306 := a0_ (kB_ (g := gb306) (o := .cells #[.int .i64 t303, .int .i64 t304, .int .i64 t305] 30 (0, 0)) (by exact BK306.out) hb); replace HB := a0_ (bT_ (by repeat (first | (with_reducible first | exact HB.out | apply bA_ | apply bN_ | apply bD_ | refine bS_ ?_ GE278.out | refine bS_ ?_ GE286.out | refine bS_ ?_ GE294.out | refine bS_ ?_ GE306.out) | exact HB.out)) hb); (try clear hb); (try clear hb2); (try clear hk); (try clear hi); (try clear ho0)) | ((with_reducible refine gate_dst (N := 21) rfl ?_); (try (refine gate_guard (by rfl) ?_; dsimp only)); refine box_event ?hg (N := 21) ?hd (cs := #[.int .i64 0, .int .i64 0, .int .i64 0]) (t := 30) ?hr ?_; (case hd => rfl); (case hg => rfl); (case hr => first | (go_simp; done) | (go_simp; rfl)); intro gb313 hg w86 hbox hb; replace HO_0 := a0_ (Kd.V_below (Kd.V_elderB (by (with_reducible repeat (first | apply Kd.V_alloc | apply Kd.V_drewN | apply Kd.V_drew)); exact HO_0.out) gb313 (Nat.le_of_eq hg.symm)) hb); replace HO_13 := a0_ (Kd.R_below (by (with_reducible repeat (first | apply Kd.R_alloc | apply Kd.R_drewN | apply Kd.R_drew)); exact HO_13.out) hb); replace HO_17 := a0_ (Kd.V_below (Kd.V_elderB (by (with_reducible repeat (first | apply Kd.V_alloc | apply Kd.V_drewN | apply Kd.V_drew)); exact HO_17.out) gb313 (Nat.le_of_eq hg.symm)) hb); replace HO302 := a0_ (Kd.R_below (by (with_reducible repeat (first | apply Kd.R_alloc | apply Kd.R_drewN | apply Kd.R_drew)); exact HO302.out) hb); replace HO309 := a0_ (Kd.R_below (by (with_reducible repeat (first | apply Kd.R_alloc | apply Kd.R_drewN | apply Kd.R_drew)); exact HO309.out) hb); have BK313 := a0_ (hbox); have GW313 := a0_ ((by rw [hg]; exact (bZ_ (by repeat (first | (with_reducible first | exact HB.out | apply bA_ | apply bN_ | apply bD_ | refine bS_ ?_ GE278.out | refine bS_ ?_ GE286.out | refine bS_ ?_ GE294.out | refine bS_ ?_ GE306.out) | exact HB.out))) : w.heap.size ≤ gb313)); have GE313 := a0_ ((by rw [hg]; exact (bZ_ (by repeat (first | (with_reducible first | exact HB.out | apply bA_ | apply bN_ | apply bD_ | refine bS_ ?_ GE278.out | refine bS_ ?_ GE286.out | refine bS_ ?_ GE294.out | refine bS_ ?_ GE306.out) | exact HB.out))) : w.heap.size ≤ gb313)); replace HB := a0_ (bT_ (by repeat (first | (with_reducible first | exact HB.out | apply bA_ | apply bN_ | apply bD_ | refine bS_ ?_ GE278.out | refine bS_ ?_ GE286.out | refine bS_ ?_ GE294.out | refine bS_ ?_ GE306.out) | exact HB.out)) hb); have NB278_313 := a0_ ((by rw [hg]; exact Nat.ne_of_lt (blk_lt (g := gb278) (o := .cells #[.int .i64 t275, .int .i64 t276, .int .i64 t277] 30 (0, 0)) (by exact BK278.out)) : gb278 ≠ gb313)); have NB313_278 := a0_ ((by rw [hg]; exact Nat.ne_of_gt (blk_lt (g := gb278) (o := .cells #[.int .i64 t275, .int .i64 t276, .int .i64 t277] 30 (0, 0)) (by exact BK278.out)) : gb313 ≠ gb278)); replace BK278 := a0_ (kB_ (g := gb278) (o := .cells #[.int .i64 t275, .int .i64 t276, .int .i64 t277] 30 (0, 0)) (by exact BK278.out) hb); have NB286_313 := a0_ ((by rw [hg]; exact Nat.ne_of_lt (blk_lt (g := gb286) (o := .cells #[.int .i64 t283, .int .i64 t284, .int .i64 t285] 30 (0, 0)) (by exact BK286.out)) : gb286 ≠ gb313)); have NB313_286 := a0_ ((by rw [hg]; exact Nat.ne_of_gt (blk_lt (g := gb286) (o := .cells #[.int .i64 t283, .int .i64 t284, .int .i64 t285] 30 (0, 0)) (by exact BK286.out)) : gb313 ≠ gb286)); replace BK286 := a0_ (kB_ (g := gb286) (o := .cells #[.int .i64 t283, .int .i64 t284, .int .i64 t285] 30 (0, 0)) (by exact BK286.out) hb); have NB294_313 := a0_ ((by rw [hg]; exact Nat.ne_of_lt (blk_lt (g := gb294) (o := .cells #[.int .i64 t291, .int .i64 t292, .int .i64 t293] 30 (0, 0)) (by exact BK294.out)) : gb294 ≠ gb313)); have NB313_294 := a0_ ((by rw [hg]; exact Nat.ne_of_gt (blk_lt (g := gb294) (o := .cells #[.int .i64 t291, .int .i64 t292, .int .i64 t293] 30 (0, 0)) (by exact BK294.out)) : gb313 ≠ gb294)); replace BK294 := a0_ (kB_ (g := gb294) (o := .cells #[.int .i64 t291, .int .i64 t292, .int .i64 t293] 30 (0, 0)) (by exact BK294.out) hb); have NB306_313 := a0_ ((by rw [hg]; exact Nat.ne_of_lt (blk_lt (g := gb306) (o := .cells #[.int .i64 t303, .int .i64 t304, .int .i64 t305] 30 (0, 0)) (by exact BK306.out)) : gb306 ≠ gb313)); have NB313_306 := a0_ ((by rw [hg]; exact Nat.ne_of_gt (blk_lt (g := gb306) (o := .cells #[.int .i64 t303, .int .i64 t304, .int .i64 t305] 30 (0, 0)) (by exact BK306.out)) : gb313 ≠ gb306)); replace BK306 := a0_ (kB_ (g := gb306) (o := .cells #[.int .i64 t303, .int .i64 t304, .int .i64 t305] 30 (0, 0)) (by exact BK306.out) hb); clear hb hbox hg; have hnb87 := NB313_278.out; have hnc87 := NB278_313.out; have hnb88 := NB313_286.out; have hnc88 := NB286_313.out; have hnb89 := NB313_294.out; have hnc89 := NB294_313.out; have hnb90 := NB313_306.out; have hnc90 := NB306_313.out; have hcz91_0 : w86.cell? ⟨gb313, 0, none⟩ = some (.int .i64 0) := (blk_cell BK313.out 0).trans rfl; have hcz91_1 : w86.cell? ⟨gb313, 1, none⟩ = some (.int .i64 0) := (blk_cell BK313.out 1).trans rfl; have hcz91_2 : w86.cell? ⟨gb313, 2, none⟩ = some (.int .i64 0) := (blk_cell BK313.out 2).trans rfl; have hfz91_0 := kF_ BK313.out 0; have hfz91_1 := kF_ BK313.out 1; have hfz91_2 := kF_ BK313.out 2))
             (try simp only [Act.put, List.setIfInBounds_toArray, List.set_cons_zero, List.set_cons_succ])
             go_cut [154] (fun v154 wc => ∃ (kq : Nat) (x154_76 : Bool), v154 = .bool x154_76 ∧ Aside0 (oriellaw35_MergeReplays.j4 kq l0 t287 x17_65 x154_76 = some r) ∧ Aside0 (kq ≤ kj65) ∧ Aside0 (Kd.V k36 36 wc w.heap.size (fun k_ => (P0_ k_ ∨ w.heap.size ≤ k_) ∧ some k_ ≠ (v288 : Value).ownBlock ∧ k_ ≠ gb278 ∧ k_ ≠ gb286 ∧ k_ ≠ gb294 ∧ k_ ≠ gb306 ∧ k_ ≠ gb313) (.slice A0 l0.length c0) l0) ∧ Aside0 (Kd.R k34 34 wc w.heap.size (fun k_ => (w.heap.size ≤ k_)) v288 t287) ∧ Aside0 (Kd.V k36 36 wc w.heap.size (fun k_ => (P0_ k_ ∨ w.heap.size ≤ k_) ∧ some k_ ≠ (v288 : Value).ownBlock ∧ k_ ≠ gb278 ∧ k_ ≠ gb286 ∧ k_ ≠ gb294 ∧ k_ ≠ gb306 ∧ k_ ≠ gb313) u17 x17_65) ∧ Aside0 (wc.heap[gb278]? = some (.cells #[.int .i64 t275, .int .i64 t276, .int .i64 t277] 30 (0, 0))) ∧ Aside0 (wc.heap[gb286]? = some (.cells #[.int .i64 t283, .int .i64 t284, .int .i64 t285] 30 (0, 0))) ∧ Aside0 (wc.heap[gb294]? = some (.cells #[.int .i64 t291, .int .i64 t292, .int .i64 t293] 30 (0, 0))) ∧ Aside0 (wc.heap[gb306]? = some (.cells #[.int .i64 t303, .int .i64 t304, .int .i64 t305] 30 (0, 0))) ∧ Aside0 (wc.heap[gb313]? = some (.cells #[.int .i64 t310, .int .i64 t311, .int .i64 t312] 30 (0, 0))) ∧ Aside0 (Below w.heap.size w wc))
             case first =>
              have H := HC77.out
              clear HC77
              by_cases c92 : (!(t310 == t303) || (!(t311 == t304) || (!(t312 == t305)))) = true
              ·rw [if_pos c92] at H
               exact absurd H (by simp)
              ·rw [if_neg c92] at H
               have c92b0 : (!(t310 == t303) || (!(t311 == t304) || (!(t312 == t305)))) = false := by simpa using c92
               clear c92
               (first | rw [c92b0] | (simp only [i64_w, i32_w]; rw [c92b0]) | skip)
               by_cases c93 : (!(t303 == 0) || (!(t304 == 0) || (!(t305 == 0)))) = true
               ·rw [if_pos c93] at H
                have c93b0 : (!(t303 == 0) || (!(t304 == 0) || (!(t305 == 0)))) = true := c93
                clear c93
                by_cases c94 : (t307.length : Int) > 0
                ·rw [if_pos c94] at H
                 exact absurd H (by simp)
                ·rw [if_neg c94] at H
                 have c94b0 := decide_eq_false c94
                 have c94b1 : decide (0 < t307.length) = false := decide_eq_false (by omega)
                 have c94k_ : ¬ (0 < t307.length) := by omega
                 clear c94
                 by_cases c95 : (t303 == 0 && (t304 == 0 && (t305 == 0))) = true
                 ·rw [if_pos c95] at H
                  have c95b0 : (t303 == 0 && (t304 == 0 && (t305 == 0))) = true := c95
                  (try (have c95b1 : decide (t303 = 0 && (t304 == 0 && (t305 == 0))) = true := by simpa using c95))
                  (try (have c95b2 : (t303 == 0 && (t304 == 0 && (t305 == 0))) = true := by simpa using c95))
                  clear c95
                  replace H := ob_ H
                  obtain ⟨t314, A960, H⟩ := H
                  replace H : ((orielref18_Changes.f kj65 t307 t314).bind fun t317 => (oriellaw35_MergeReplays.j4 kj65 l0 t287 x17_65 (!t317))) = some r := H
                  have A96 := a0_ A960
                  clear A960
                  replace H := ob_ H
                  obtain ⟨t317, A970, H⟩ := H
                  replace H : (oriellaw35_MergeReplays.j4 kj65 l0 t287 x17_65 (!t317)) = some r := H
                  have A97 := a0_ A970
                  clear A970
                  have H' := a0_ H
                  clear H
                  have hnb98 := NB313_278.out
                  have hnc98 := NB278_313.out
                  have hnb99 := NB313_286.out
                  have hnc99 := NB286_313.out
                  have hnb100 := NB313_294.out
                  have hnc100 := NB294_313.out
                  have hnb101 := NB313_306.out
                  have hnc101 := NB306_313.out
                  have hcz102_0 : w86.cell? ⟨gb313, 0, none⟩ = some (.int .i64 0) := (blk_cell BK313.out 0).trans rfl
                  have hcz102_1 : w86.cell? ⟨gb313, 1, none⟩ = some (.int .i64 0) := (blk_cell BK313.out 1).trans rfl
                  have hcz102_2 : w86.cell? ⟨gb313, 2, none⟩ = some (.int .i64 0) := (blk_cell BK313.out 2).trans rfl
                  have hfz102_0 := kF_ BK313.out 0
                  have hfz102_1 := kF_ BK313.out 1
                  have hfz102_2 := kF_ BK313.out 2
                  have hnb103 := NB306_278.out
                  have hnc103 := NB278_306.out
                  have hnb104 := NB306_286.out
                  have hnc104 := NB286_306.out
                  have hnb105 := NB306_294.out
                  have hnc105 := NB294_306.out
                  have hcz106_0 : w86.cell? ⟨gb306, 0, none⟩ = some (.int .i64 t303) := (blk_cell BK306.out 0).trans rfl
                  have hcz106_1 : w86.cell? ⟨gb306, 1, none⟩ = some (.int .i64 t304) := (blk_cell BK306.out 1).trans rfl
                  have hcz106_2 : w86.cell? ⟨gb306, 2, none⟩ = some (.int .i64 t305) := (blk_cell BK306.out 2).trans rfl
                  have hfz106_0 := kF_ BK306.out 0
                  have hfz106_1 := kF_ BK306.out 1
                  have hfz106_2 := kF_ BK306.out 2
                  obtain ⟨Ao107, co107, eo107⟩ := Kd.R_slice HO309.out
                  subst eo107
                  obtain ⟨Ao108, co108, eo108⟩ := Kd.R_slice HO302.out
                  subst eo108
                  go_wp2_with (first | (go_at_call 18; (with_reducible refine (orielref35_Net.calls kj65 _ _ l0 _ _ t300 t314 _ ?side1 ?side2 ?side3 ?side4 A96.out).mono ?_); (case side1 => refine (Kd.V_reads' (e := 36) (base := w.heap.size) (ok := fun k_ => ((((P0_ k_ ∨ w.heap.size ≤ k_) ∧ (some k_ ≠ (v288 : Value).ownBlock ∧ (some k_ ≠ (.slice Ao108 t300.length co108 : Value).ownBlock ∧ (k_ ≠ gb278 ∧ (k_ ≠ gb286 ∧ (k_ ≠ gb294 ∧ k_ ≠ gb306)))))) ∧ some k_ ≠ (.slice Ao107 t307.length co107 : Value).ownBlock) ∧ k_ ≠ gb313)) (n := l0.length) (c := c0) ?_).2.2; exact (by (with_reducible repeat (first | apply Kd.V_alloc | apply Kd.V_drewN | apply Kd.V_drew)); exact (Kd.V_mono (Kd.V_far (p := ⟨gb313, 2, none⟩) (Kd.V_far (p := ⟨gb313, 1, none⟩) (Kd.V_far (p := ⟨gb313, 0, none⟩) (Kd.V_mono HO_0.out (fun k_ hk => (⟨hk, hk.2⟩ : _ ∧ k_ ≠ gb313))) (fun _ hk => hk.2) (.int .i64 t310)) (fun _ hk => hk.2) (.int .i64 t311)) (fun _ hk => hk.2) (.int .i64 t312)) (fun _ h_ => h_.1)))); (case side2 => exact (Kd.V_reads' HO_0.out).2.1); (case side3 => refine (Kd.R_reads' (e := 36) (base := w.heap.size) (ok := fun k_ => (w.heap.size ≤ k_)) (n := t300.length) (c := co108) ?_).2.2; exact (by (with_reducible repeat (first | apply Kd.R_alloc | apply Kd.R_drewN | apply Kd.R_drew)); exact (Kd.R_mono (Kd.R_far (p := ⟨gb313, 2, none⟩) (Kd.R_far (p := ⟨gb313, 1, none⟩) (Kd.R_far (p := ⟨gb313, 0, none⟩) (Kd.R_types HO302.out BK313.out (by decide)) (fun _ hk => hk.2) (.int .i64 t310)) (fun _ hk => hk.2) (.int .i64 t311)) (fun _ hk => hk.2) (.int .i64 t312)) (fun _ h_ => h_.1)))); (case side4 => exact (Kd.R_reads' HO302.out).2.1); rintro e w109 ⟨v315, rfl, ho0, hb⟩; replace HO_0 := a0_ (Kd.V_elder' (by (with_reducible repeat (first | apply Kd.V_alloc | apply Kd.V_drewN | apply Kd.V_drew)); exact (Kd.V_mono (Kd.V_far (p := ⟨gb313, 2, none⟩) (Kd.V_far (p := ⟨gb313, 1, none⟩) (Kd.V_far (p := ⟨gb313, 0, none⟩) (Kd.V_mono HO_0.out (fun k_ hk => (⟨hk, hk.2⟩ : _ ∧ k_ ≠ gb313))) (fun _ hk => hk.2) (.int .i64 t310)) (fun _ hk => hk.2) (.int .i64 t311)) (fun _ hk => hk.2) (.int .i64 t312)) (fun _ h_ => h_.1))) (Kd.R_base ho0) hb); replace HO_17 := a0_ (Kd.V_elder' (by (with_reducible repeat (first | apply Kd.V_alloc | apply Kd.V_drewN | apply Kd.V_drew)); exact (Kd.V_mono (Kd.V_far (p := ⟨gb313, 2, none⟩) (Kd.V_far (p := ⟨gb313, 1, none⟩) (Kd.V_far (p := ⟨gb313, 0, none⟩) (Kd.V_mono HO_17.out (fun k_ hk => (⟨hk, hk.2⟩ : _ ∧ k_ ≠ gb313))) (fun _ hk => hk.2) (.int .i64 t310)) (fun _ hk => hk.2) (.int .i64 t311)) (fun _ hk => hk.2) (.int .i64 t312)) (fun _ h_ => h_.1))) (Kd.R_base ho0) hb); replace HO302 := a0_ (Kd.R_below (by (with_reducible repeat (first | apply Kd.R_alloc | apply Kd.R_drewN | apply Kd.R_drew)); exact (Kd.R_mono (Kd.R_far (p := ⟨gb313, 2, none⟩) (Kd.R_far (p := ⟨gb313, 1, none⟩) (Kd.R_far (p := ⟨gb313, 0, none⟩) (Kd.R_types HO302.out BK313.out (by decide)) (fun _ hk => hk.2) (.int .i64 t310)) (fun _ hk => hk.2) (.int .i64 t311)) (fun _ hk => hk.2) (.int .i64 t312)) (fun _ h_ => h_.1))) hb); have HO316 := a0_ (Kd.R_lower (Kd.R_new' (Kd.R_new' (Kd.R_newM (M := fun k_ => (w.heap.size ≤ k_)) ho0 (bZ_ (by repeat (first | (with_reducible first | exact HB.out | apply bA_ | apply bN_ | apply bD_ | refine bS_ ?_ GE278.out | refine bS_ ?_ GE286.out | refine bS_ ?_ GE294.out | refine bS_ ?_ GE306.out | refine bS_ ?_ GE313.out) | exact HB.out))) (fun k_ h_ => h_)) (Kd.R_lt (by (with_reducible repeat (first | apply Kd.R_alloc | apply Kd.R_drewN | apply Kd.R_drew)); exact (Kd.R_mono (Kd.R_far (p := ⟨gb313, 2, none⟩) (Kd.R_far (p := ⟨gb313, 1, none⟩) (Kd.R_far (p := ⟨gb313, 0, none⟩) (Kd.R_types HO_13.out BK313.out (by decide)) (fun _ hk => hk.2) (.int .i64 t310)) (fun _ hk => hk.2) (.int .i64 t311)) (fun _ hk => hk.2) (.int .i64 t312)) (fun _ h_ => h_.1))))) (Kd.R_lt (by (with_reducible repeat (first | apply Kd.R_alloc | apply Kd.R_drewN | apply Kd.R_drew)); exact (Kd.R_mono (Kd.R_far (p := ⟨gb313, 2, none⟩) (Kd.R_far (p := ⟨gb313, 1, none⟩) (Kd.R_far (p := ⟨gb313, 0, none⟩) (Kd.R_types HO309.out BK313.out (by decide)) (fun _ hk => hk.2) (.int .i64 t310)) (fun _ hk => hk.2) (.int .i64 t311)) (fun _ hk => hk.2) (.int .i64 t312)) (fun _ h_ => h_.1))))) (bZ_ (by repeat (first | (with_reducible first | exact HB.out | apply bA_ | apply bN_ | apply bD_ | refine bS_ ?_ GE278.out | refine bS_ ?_ GE286.out | refine bS_ ?_ GE294.out | refine bS_ ?_ GE306.out | refine bS_ ?_ GE313.out) | exact HB.out)))); replace HO_13 := a0_ (Kd.R_elder' (by (with_reducible repeat (first | apply Kd.R_alloc | apply Kd.R_drewN | apply Kd.R_drew)); exact (Kd.R_mono (Kd.R_far (p := ⟨gb313, 2, none⟩) (Kd.R_far (p := ⟨gb313, 1, none⟩) (Kd.R_far (p := ⟨gb313, 0, none⟩) (Kd.R_types HO_13.out BK313.out (by decide)) (fun _ hk => hk.2) (.int .i64 t310)) (fun _ hk => hk.2) (.int .i64 t311)) (fun _ hk => hk.2) (.int .i64 t312)) (fun _ h_ => h_.1))) (Kd.R_base ho0) hb); replace HO309 := a0_ (Kd.R_elder' (by (with_reducible repeat (first | apply Kd.R_alloc | apply Kd.R_drewN | apply Kd.R_drew)); exact (Kd.R_mono (Kd.R_far (p := ⟨gb313, 2, none⟩) (Kd.R_far (p := ⟨gb313, 1, none⟩) (Kd.R_far (p := ⟨gb313, 0, none⟩) (Kd.R_types HO309.out BK313.out (by decide)) (fun _ hk => hk.2) (.int .i64 t310)) (fun _ hk => hk.2) (.int .i64 t311)) (fun _ hk => hk.2) (.int .i64 t312)) (fun _ h_ => h_.1))) (Kd.R_base ho0) hb); replace BK278 := a0_ (kB_ (g := gb278) (o := .cells #[.int .i64 t275, .int .i64 t276, .int .i64 t277] 30 (0, 0)) (by refine blk_far ?_ NB278_313.out _; refine blk_far ?_ NB278_313.out _; refine blk_far ?_ NB278_313.out _; exact BK278.out) hb); replace BK286 := a0_ (kB_ (g := gb286) (o := .cells #[.int .i64 t283, .int .i64 t284, .int .i64 t285] 30 (0, 0)) (by refine blk_far ?_ NB286_313.out _; refine blk_far ?_ NB286_313.out _; refine blk_far ?_ NB286_313.out _; exact BK286.out) hb); replace BK294 := a0_ (kB_ (g := gb294) (o := .cells #[.int .i64 t291, .int .i64 t292, .int .i64 t293] 30 (0, 0)) (by refine blk_far ?_ NB294_313.out _; refine blk_far ?_ NB294_313.out _; refine blk_far ?_ NB294_313.out _; exact BK294.out) hb); replace BK306 := a0_ (kB_ (g := gb306) (o := .cells #[.int .i64 t303, .int .i64 t304, .int .i64 t305] 30 (0, 0)) (by refine blk_far ?_ NB306_313.out _; refine blk_far ?_ NB306_313.out _; refine blk_far ?_ NB306_313.out _; exact BK306.out) hb); replace BK313 := a0_ (kB_ (g := gb313) (o := .cells #[.int .i64 t310, .int .i64 t311, .int .i64 t312] 30 (0, 0)) (by refine blk_put (cs := #[.int .i64 t310, .int .i64 t311, .int .i64 0]) ?_ 2 _ rfl; refine blk_put (cs := #[.int .i64 t310, .int .i64 0, .int .i64 0]) ?_ 1 _ rfl; refine blk_put (cs := #[.int .i64 0, .int .i64 0, .int .i64 0]) ?_ 0 _ rfl; exact BK313.out) hb); replace HB := a0_ (bT_ (by repeat (first | (with_reducible first | exact HB.out | apply bA_ | apply bN_ | apply bD_ | refine bS_ ?_ GE278.out | refine bS_ ?_ GE286.out | refine bS_ ?_ GE294.out | refine bS_ ?_ GE306.out | refine bS_ ?_ GE313.out) | exact HB.out)) hb); (try clear hb); (try clear hb2); (try clear hk); (try clear hi); (try clear ho0); obtain ⟨Ao110, co110, eo110⟩ := Kd.R_slice HO316.out; subst eo110) | (go_at_call 12; (with_reducible refine (orielref18_Changes.calls kj65 _ _ t307 _ _ t314 t317 _ ?side1 ?side2 ?side3 ?side4 A97.out).mono ?_); (case side1 => repeat (first | exact (Kd.R_reads' HO309.out).2.2 | (with_reducible refine Kd.C_alloc ?_ _) | (with_reducible refine Kd.C_drewN ?_ _) | (with_reducible refine Kd.C_drew ?_))); (case side2 => exact (Kd.R_reads' HO309.out).2.1); (case side3 => repeat (first | exact (Kd.R_reads' HO316.out).2.2 | (with_reducible refine Kd.C_alloc ?_ _) | (with_reducible refine Kd.C_drewN ?_ _) | (with_reducible refine Kd.C_drew ?_))); (case side4 => exact (Kd.R_reads' HO316.out).2.1); rintro e w' ⟨rfl, ⟨nd, rfl⟩⟩; (try first | exact ⟨rfl, _, World.drewN_drewN _ _ _⟩ | exact ⟨rfl, _, Eq.trans (World.drewN_drewN _ _ _) (congrArg (World.drewN _) (Nat.add_assoc _ _ _))⟩)))
                  go_meet
                  case rel => exact ⟨_, (!t317), (by first | rfl | (simp; done) | (simp [*]; done)), H', ⟨by have := HJ3.out; have := HJ21.out; have := HK3.out; have := HJ65.out; first | omega | exact Nat.le_refl _⟩, ⟨by (with_reducible repeat (first | apply Kd.V_alloc | apply Kd.V_drewN | apply Kd.V_drew)); exact Kd.V_mono HO_0.out (fun _ hk => ⟨hk.1.1.1.1, ⟨hk.1.1.1.2.1, ⟨hk.1.1.1.2.2.2.1, ⟨hk.1.1.1.2.2.2.2.1, ⟨hk.1.1.1.2.2.2.2.2.1, ⟨hk.1.1.1.2.2.2.2.2.2, hk.1.2⟩⟩⟩⟩⟩⟩)⟩, ⟨by (with_reducible repeat (first | apply Kd.R_alloc | apply Kd.R_drewN | apply Kd.R_drew)); exact Kd.R_mono HO_13.out (fun _ hk => hk.1.1)⟩, ⟨by (with_reducible repeat (first | apply Kd.V_alloc | apply Kd.V_drewN | apply Kd.V_drew)); exact Kd.V_mono HO_17.out (fun _ hk => ⟨hk.1.1.1.1, ⟨hk.1.1.1.2.1, ⟨hk.1.1.1.2.2.2.1, ⟨hk.1.1.1.2.2.2.2.1, ⟨hk.1.1.1.2.2.2.2.2.1, ⟨hk.1.1.1.2.2.2.2.2.2, hk.1.2⟩⟩⟩⟩⟩⟩)⟩, ⟨by exact BK278.out⟩, ⟨by exact BK286.out⟩, ⟨by exact BK294.out⟩, ⟨by exact BK306.out⟩, ⟨by exact BK313.out⟩, ⟨by repeat (first | (with_reducible first | exact HB.out | apply bA_ | apply bN_ | apply bD_ | refine bS_ ?_ GE278.out | refine bS_ ?_ GE286.out | refine bS_ ?_ GE294.out | refine bS_ ?_ GE306.out | refine bS_ ?_ GE313.out) | exact HB.out)⟩⟩
                 ·rw [if_neg c95] at H
                  have c95b0 : (t303 == 0 && (t304 == 0 && (t305 == 0))) = false := by simpa using c95
                  (try (have c95b1 : decide (t303 = 0 && (t304 == 0 && (t305 == 0))) = false := by simpa using c95))
                  (try (have c95b2 : (t303 == 0 && (t304 == 0 && (t305 == 0))) = false := by simpa using c95))
                  (try (have c95b3 : ¬ (t303 = 0 && (t304 == 0 && (t305 == 0))) := by simpa using c95))
                  clear c95
                  have H' := a0_ H
                  clear H
                  have hnb111 := NB313_278.out
                  have hnc111 := NB278_313.out
                  have hnb112 := NB313_286.out
                  have hnc112 := NB286_313.out
                  have hnb113 := NB313_294.out
                  have hnc113 := NB294_313.out
                  have hnb114 := NB313_306.out
                  have hnc114 := NB306_313.out
                  have hcz115_0 : w86.cell? ⟨gb313, 0, none⟩ = some (.int .i64 0) := (blk_cell BK313.out 0).trans rfl
                  have hcz115_1 : w86.cell? ⟨gb313, 1, none⟩ = some (.int .i64 0) := (blk_cell BK313.out 1).trans rfl
                  have hcz115_2 : w86.cell? ⟨gb313, 2, none⟩ = some (.int .i64 0) := (blk_cell BK313.out 2).trans rfl
                  have hfz115_0 := kF_ BK313.out 0
                  have hfz115_1 := kF_ BK313.out 1
                  have hfz115_2 := kF_ BK313.out 2
                  have hnb116 := NB306_278.out
                  have hnc116 := NB278_306.out
                  have hnb117 := NB306_286.out
                  have hnc117 := NB286_306.out
                  have hnb118 := NB306_294.out
                  have hnc118 := NB294_306.out
                  have hcz119_0 : w86.cell? ⟨gb306, 0, none⟩ = some (.int .i64 t303) := (blk_cell BK306.out 0).trans rfl
                  have hcz119_1 : w86.cell? ⟨gb306, 1, none⟩ = some (.int .i64 t304) := (blk_cell BK306.out 1).trans rfl
                  have hcz119_2 : w86.cell? ⟨gb306, 2, none⟩ = some (.int .i64 t305) := (blk_cell BK306.out 2).trans rfl
                  have hfz119_0 := kF_ BK306.out 0
                  have hfz119_1 := kF_ BK306.out 1
                  have hfz119_2 := kF_ BK306.out 2
                  obtain ⟨Ao120, co120, eo120⟩ := Kd.R_slice HO309.out
                  subst eo120
                  go_wp2
                  try go_wp2
                  try go_wp2
                  try go_wp2
                  repeat (go_quiet (fail); try go_wp2)
                  go_meet
                  case rel => exact ⟨_, (false), (by first | rfl | (simp; done) | (simp [*]; done)), H', ⟨by have := HJ3.out; have := HJ21.out; have := HK3.out; have := HJ65.out; first | omega | exact Nat.le_refl _⟩, ⟨by (with_reducible repeat (first | apply Kd.V_alloc | apply Kd.V_drewN | apply Kd.V_drew)); exact Kd.V_mono (Kd.V_far (p := ⟨gb313, 2, none⟩) (Kd.V_far (p := ⟨gb313, 1, none⟩) (Kd.V_far (p := ⟨gb313, 0, none⟩) (Kd.V_mono HO_0.out (fun k_ hk => (⟨hk, hk.2⟩ : _ ∧ k_ ≠ gb313))) (fun _ hk => hk.2) (.int .i64 t310)) (fun _ hk => hk.2) (.int .i64 t311)) (fun _ hk => hk.2) (.int .i64 t312)) (fun _ hk => ⟨hk.1.1.1.1, ⟨hk.1.1.1.2.1, ⟨hk.1.1.1.2.2.2.1, ⟨hk.1.1.1.2.2.2.2.1, ⟨hk.1.1.1.2.2.2.2.2.1, ⟨hk.1.1.1.2.2.2.2.2.2, hk.1.2⟩⟩⟩⟩⟩⟩)⟩, ⟨by (with_reducible repeat (first | apply Kd.R_alloc | apply Kd.R_drewN | apply Kd.R_drew)); exact Kd.R_mono (Kd.R_far (p := ⟨gb313, 2, none⟩) (Kd.R_far (p := ⟨gb313, 1, none⟩) (Kd.R_far (p := ⟨gb313, 0, none⟩) (Kd.R_types HO_13.out BK313.out (by decide)) (fun _ hk => hk.2) (.int .i64 t310)) (fun _ hk => hk.2) (.int .i64 t311)) (fun _ hk => hk.2) (.int .i64 t312)) (fun _ hk => hk.1.1)⟩, ⟨by (with_reducible repeat (first | apply Kd.V_alloc | apply Kd.V_drewN | apply Kd.V_drew)); exact Kd.V_mono (Kd.V_far (p := ⟨gb313, 2, none⟩) (Kd.V_far (p := ⟨gb313, 1, none⟩) (Kd.V_far (p := ⟨gb313, 0, none⟩) (Kd.V_mono HO_17.out (fun k_ hk => (⟨hk, hk.2⟩ : _ ∧ k_ ≠ gb313))) (fun _ hk => hk.2) (.int .i64 t310)) (fun _ hk => hk.2) (.int .i64 t311)) (fun _ hk => hk.2) (.int .i64 t312)) (fun _ hk => ⟨hk.1.1.1.1, ⟨hk.1.1.1.2.1, ⟨hk.1.1.1.2.2.2.1, ⟨hk.1.1.1.2.2.2.2.1, ⟨hk.1.1.1.2.2.2.2.2.1, ⟨hk.1.1.1.2.2.2.2.2.2, hk.1.2⟩⟩⟩⟩⟩⟩)⟩, ⟨by refine blk_far ?_ NB278_313.out _; refine blk_far ?_ NB278_313.out _; refine blk_far ?_ NB278_313.out _; exact BK278.out⟩, ⟨by refine blk_far ?_ NB286_313.out _; refine blk_far ?_ NB286_313.out _; refine blk_far ?_ NB286_313.out _; exact BK286.out⟩, ⟨by refine blk_far ?_ NB294_313.out _; refine blk_far ?_ NB294_313.out _; refine blk_far ?_ NB294_313.out _; exact BK294.out⟩, ⟨by refine blk_far ?_ NB306_313.out _; refine blk_far ?_ NB306_313.out _; refine blk_far ?_ NB306_313.out _; exact BK306.out⟩, ⟨by refine blk_put (cs := #[.int .i64 t310, .int .i64 t311, .int .i64 0]) ?_ 2 _ rfl; refine blk_put (cs := #[.int .i64 t310, .int .i64 0, .int .i64 0]) ?_ 1 _ rfl; refine blk_put (cs := #[.int .i64 0, .int .i64 0, .int .i64 0]) ?_ 0 _ rfl; exact BK313.out⟩, ⟨by repeat (first | (with_reducible first | exact HB.out | apply bA_ | apply bN_ | apply bD_ | refine bS_ ?_ GE278.out | refine bS_ ?_ GE286.out | refine bS_ ?_ GE294.out | refine bS_ ?_ GE306.out | refine bS_ ?_ GE313.out) | exact HB.out)⟩⟩
               ·rw [if_neg c93] at H
                have c93b0 : (!(t303 == 0) || (!(t304 == 0) || (!(t305 == 0)))) = false := by simpa using c93
                clear c93
                by_cases c121 : (t303 == 0 && (t304 == 0 && (t305 == 0))) = true
                ·rw [if_pos c121] at H
                 have c121b0 : (t303 == 0 && (t304 == 0 && (t305 == 0))) = true := c121
                 (try (have c121b1 : decide (t303 = 0 && (t304 == 0 && (t305 == 0))) = true := by simpa using c121))
                 (try (have c121b2 : (t303 == 0 && (t304 == 0 && (t305 == 0))) = true := by simpa using c121))
                 clear c121
                 replace H := ob_ H
                 obtain ⟨t318, A1220, H⟩ := H
                 replace H : ((orielref18_Changes.f kj65 t307 t318).bind fun t321 => (oriellaw35_MergeReplays.j4 kj65 l0 t287 x17_65 (!t321))) = some r := H
                 have A122 := a0_ A1220
                 clear A1220
                 replace H := ob_ H
                 obtain ⟨t321, A1230, H⟩ := H
                 replace H : (oriellaw35_MergeReplays.j4 kj65 l0 t287 x17_65 (!t321)) = some r := H
                 have A123 := a0_ A1230
                 clear A1230
                 have H' := a0_ H
                 clear H
                 have hnb124 := NB313_278.out
                 have hnc124 := NB278_313.out
                 have hnb125 := NB313_286.out
                 have hnc125 := NB286_313.out
                 have hnb126 := NB313_294.out
                 have hnc126 := NB294_313.out
                 have hnb127 := NB313_306.out
                 have hnc127 := NB306_313.out
                 have hcz128_0 : w86.cell? ⟨gb313, 0, none⟩ = some (.int .i64 0) := (blk_cell BK313.out 0).trans rfl
                 have hcz128_1 : w86.cell? ⟨gb313, 1, none⟩ = some (.int .i64 0) := (blk_cell BK313.out 1).trans rfl
                 have hcz128_2 : w86.cell? ⟨gb313, 2, none⟩ = some (.int .i64 0) := (blk_cell BK313.out 2).trans rfl
                 have hfz128_0 := kF_ BK313.out 0
                 have hfz128_1 := kF_ BK313.out 1
                 have hfz128_2 := kF_ BK313.out 2
                 have hnb129 := NB306_278.out
                 have hnc129 := NB278_306.out
                 have hnb130 := NB306_286.out
                 have hnc130 := NB286_306.out
                 have hnb131 := NB306_294.out
                 have hnc131 := NB294_306.out
                 have hcz132_0 : w86.cell? ⟨gb306, 0, none⟩ = some (.int .i64 t303) := (blk_cell BK306.out 0).trans rfl
                 have hcz132_1 : w86.cell? ⟨gb306, 1, none⟩ = some (.int .i64 t304) := (blk_cell BK306.out 1).trans rfl
                 have hcz132_2 : w86.cell? ⟨gb306, 2, none⟩ = some (.int .i64 t305) := (blk_cell BK306.out 2).trans rfl
                 have hfz132_0 := kF_ BK306.out 0
                 have hfz132_1 := kF_ BK306.out 1
                 have hfz132_2 := kF_ BK306.out 2
                 obtain ⟨Ao133, co133, eo133⟩ := Kd.R_slice HO302.out
                 subst eo133
                 go_wp2_with (first | (go_at_call 18; (with_reducible refine (orielref35_Net.calls kj65 _ _ l0 _ _ t300 t318 _ ?side1 ?side2 ?side3 ?side4 A122.out).mono ?_); (case side1 => refine (Kd.V_reads' (e := 36) (base := w.heap.size) (ok := fun k_ => ((((P0_ k_ ∨ w.heap.size ≤ k_) ∧ (some k_ ≠ (v288 : Value).ownBlock ∧ (some k_ ≠ (.slice Ao133 t300.length co133 : Value).ownBlock ∧ (k_ ≠ gb278 ∧ (k_ ≠ gb286 ∧ (k_ ≠ gb294 ∧ k_ ≠ gb306)))))) ∧ some k_ ≠ (v308 : Value).ownBlock) ∧ k_ ≠ gb313)) (n := l0.length) (c := c0) ?_).2.2; exact (by (with_reducible repeat (first | apply Kd.V_alloc | apply Kd.V_drewN | apply Kd.V_drew)); exact (Kd.V_mono (Kd.V_far (p := ⟨gb313, 2, none⟩) (Kd.V_far (p := ⟨gb313, 1, none⟩) (Kd.V_far (p := ⟨gb313, 0, none⟩) (Kd.V_mono HO_0.out (fun k_ hk => (⟨hk, hk.2⟩ : _ ∧ k_ ≠ gb313))) (fun _ hk => hk.2) (.int .i64 t310)) (fun _ hk => hk.2) (.int .i64 t311)) (fun _ hk => hk.2) (.int .i64 t312)) (fun _ h_ => h_.1)))); (case side2 => exact (Kd.V_reads' HO_0.out).2.1); (case side3 => refine (Kd.R_reads' (e := 36) (base := w.heap.size) (ok := fun k_ => (w.heap.size ≤ k_)) (n := t300.length) (c := co133) ?_).2.2; exact (by (with_reducible repeat (first | apply Kd.R_alloc | apply Kd.R_drewN | apply Kd.R_drew)); exact (Kd.R_mono (Kd.R_far (p := ⟨gb313, 2, none⟩) (Kd.R_far (p := ⟨gb313, 1, none⟩) (Kd.R_far (p := ⟨gb313, 0, none⟩) (Kd.R_types HO302.out BK313.out (by decide)) (fun _ hk => hk.2) (.int .i64 t310)) (fun _ hk => hk.2) (.int .i64 t311)) (fun _ hk => hk.2) (.int .i64 t312)) (fun _ h_ => h_.1)))); (case side4 => exact (Kd.R_reads' HO302.out).2.1); rintro e w134 ⟨v319, rfl, ho0, hb⟩; replace HO_0 := a0_ (Kd.V_elder' (by (with_reducible repeat (first | apply Kd.V_alloc | apply Kd.V_drewN | apply Kd.V_drew)); exact (Kd.V_mono (Kd.V_far (p := ⟨gb313, 2, none⟩) (Kd.V_far (p := ⟨gb313, 1, none⟩) (Kd.V_far (p := ⟨gb313, 0, none⟩) (Kd.V_mono HO_0.out (fun k_ hk => (⟨hk, hk.2⟩ : _ ∧ k_ ≠ gb313))) (fun _ hk => hk.2) (.int .i64 t310)) (fun _ hk => hk.2) (.int .i64 t311)) (fun _ hk => hk.2) (.int .i64 t312)) (fun _ h_ => h_.1))) (Kd.R_base ho0) hb); replace HO_17 := a0_ (Kd.V_elder' (by (with_reducible repeat (first | apply Kd.V_alloc | apply Kd.V_drewN | apply Kd.V_drew)); exact (Kd.V_mono (Kd.V_far (p := ⟨gb313, 2, none⟩) (Kd.V_far (p := ⟨gb313, 1, none⟩) (Kd.V_far (p := ⟨gb313, 0, none⟩) (Kd.V_mono HO_17.out (fun k_ hk => (⟨hk, hk.2⟩ : _ ∧ k_ ≠ gb313))) (fun _ hk => hk.2) (.int .i64 t310)) (fun _ hk => hk.2) (.int .i64 t311)) (fun _ hk => hk.2) (.int .i64 t312)) (fun _ h_ => h_.1))) (Kd.R_base ho0) hb); replace HO302 := a0_ (Kd.R_below (by (with_reducible repeat (first | apply Kd.R_alloc | apply Kd.R_drewN | apply Kd.R_drew)); exact (Kd.R_mono (Kd.R_far (p := ⟨gb313, 2, none⟩) (Kd.R_far (p := ⟨gb313, 1, none⟩) (Kd.R_far (p := ⟨gb313, 0, none⟩) (Kd.R_types HO302.out BK313.out (by decide)) (fun _ hk => hk.2) (.int .i64 t310)) (fun _ hk => hk.2) (.int .i64 t311)) (fun _ hk => hk.2) (.int .i64 t312)) (fun _ h_ => h_.1))) hb); have HO320 := a0_ (Kd.R_lower (Kd.R_new' (Kd.R_new' (Kd.R_newM (M := fun k_ => (w.heap.size ≤ k_)) ho0 (bZ_ (by repeat (first | (with_reducible first | exact HB.out | apply bA_ | apply bN_ | apply bD_ | refine bS_ ?_ GE278.out | refine bS_ ?_ GE286.out | refine bS_ ?_ GE294.out | refine bS_ ?_ GE306.out | refine bS_ ?_ GE313.out) | exact HB.out))) (fun k_ h_ => h_)) (Kd.R_lt (by (with_reducible repeat (first | apply Kd.R_alloc | apply Kd.R_drewN | apply Kd.R_drew)); exact (Kd.R_mono (Kd.R_far (p := ⟨gb313, 2, none⟩) (Kd.R_far (p := ⟨gb313, 1, none⟩) (Kd.R_far (p := ⟨gb313, 0, none⟩) (Kd.R_types HO_13.out BK313.out (by decide)) (fun _ hk => hk.2) (.int .i64 t310)) (fun _ hk => hk.2) (.int .i64 t311)) (fun _ hk => hk.2) (.int .i64 t312)) (fun _ h_ => h_.1))))) (Kd.R_lt (by (with_reducible repeat (first | apply Kd.R_alloc | apply Kd.R_drewN | apply Kd.R_drew)); exact (Kd.R_mono (Kd.R_far (p := ⟨gb313, 2, none⟩) (Kd.R_far (p := ⟨gb313, 1, none⟩) (Kd.R_far (p := ⟨gb313, 0, none⟩) (Kd.R_types HO309.out BK313.out (by decide)) (fun _ hk => hk.2) (.int .i64 t310)) (fun _ hk => hk.2) (.int .i64 t311)) (fun _ hk => hk.2) (.int .i64 t312)) (fun _ h_ => h_.1))))) (bZ_ (by repeat (first | (with_reducible first | exact HB.out | apply bA_ | apply bN_ | apply bD_ | refine bS_ ?_ GE278.out | refine bS_ ?_ GE286.out | refine bS_ ?_ GE294.out | refine bS_ ?_ GE306.out | refine bS_ ?_ GE313.out) | exact HB.out)))); replace HO_13 := a0_ (Kd.R_elder' (by (with_reducible repeat (first | apply Kd.R_alloc | apply Kd.R_drewN | apply Kd.R_drew)); exact (Kd.R_mono (Kd.R_far (p := ⟨gb313, 2, none⟩) (Kd.R_far (p := ⟨gb313, 1, none⟩) (Kd.R_far (p := ⟨gb313, 0, none⟩) (Kd.R_types HO_13.out BK313.out (by decide)) (fun _ hk => hk.2) (.int .i64 t310)) (fun _ hk => hk.2) (.int .i64 t311)) (fun _ hk => hk.2) (.int .i64 t312)) (fun _ h_ => h_.1))) (Kd.R_base ho0) hb); replace HO309 := a0_ (Kd.R_elder' (by (with_reducible repeat (first | apply Kd.R_alloc | apply Kd.R_drewN | apply Kd.R_drew)); exact (Kd.R_mono (Kd.R_far (p := ⟨gb313, 2, none⟩) (Kd.R_far (p := ⟨gb313, 1, none⟩) (Kd.R_far (p := ⟨gb313, 0, none⟩) (Kd.R_types HO309.out BK313.out (by decide)) (fun _ hk => hk.2) (.int .i64 t310)) (fun _ hk => hk.2) (.int .i64 t311)) (fun _ hk => hk.2) (.int .i64 t312)) (fun _ h_ => h_.1))) (Kd.R_base ho0) hb); replace BK278 := a0_ (kB_ (g := gb278) (o := .cells #[.int .i64 t275, .int .i64 t276, .int .i64 t277] 30 (0, 0)) (by refine blk_far ?_ NB278_313.out _; refine blk_far ?_ NB278_313.out _; refine blk_far ?_ NB278_313.out _; exact BK278.out) hb); replace BK286 := a0_ (kB_ (g := gb286) (o := .cells #[.int .i64 t283, .int .i64 t284, .int .i64 t285] 30 (0, 0)) (by refine blk_far ?_ NB286_313.out _; refine blk_far ?_ NB286_313.out _; refine blk_far ?_ NB286_313.out _; exact BK286.out) hb); replace BK294 := a0_ (kB_ (g := gb294) (o := .cells #[.int .i64 t291, .int .i64 t292, .int .i64 t293] 30 (0, 0)) (by refine blk_far ?_ NB294_313.out _; refine blk_far ?_ NB294_313.out _; refine blk_far ?_ NB294_313.out _; exact BK294.out) hb); replace BK306 := a0_ (kB_ (g := gb306) (o := .cells #[.int .i64 t303, .int .i64 t304, .int .i64 t305] 30 (0, 0)) (by refine blk_far ?_ NB306_313.out _; refine blk_far ?_ NB306_313.out _; refine blk_far ?_ NB306_313.out _; exact BK306.out) hb); replace BK313 := a0_ (kB_ (g := gb313) (o := .cells #[.int .i64 t310, .int .i64 t311, .int .i64 t312] 30 (0, 0)) (by refine blk_put (cs := #[.int .i64 t310, .int .i64 t311, .int .i64 0]) ?_ 2 _ rfl; refine blk_put (cs := #[.int .i64 t310, .int .i64 0, .int .i64 0]) ?_ 1 _ rfl; refine blk_put (cs := #[.int .i64 0, .int .i64 0, .int .i64 0]) ?_ 0 _ rfl; exact BK313.out) hb); replace HB := a0_ (bT_ (by repeat (first | (with_reducible first | exact HB.out | apply bA_ | apply bN_ | apply bD_ | refine bS_ ?_ GE278.out | refine bS_ ?_ GE286.out | refine bS_ ?_ GE294.out | refine bS_ ?_ GE306.out | refine bS_ ?_ GE313.out) | exact HB.out)) hb); (try clear hb); (try clear hb2); (try clear hk); (try clear hi); (try clear ho0); obtain ⟨Ao135, co135, eo135⟩ := Kd.R_slice HO309.out; subst eo135; obtain ⟨Ao136, co136, eo136⟩ := Kd.R_slice HO320.out; subst eo136) | (go_at_call 12; (with_reducible refine (orielref18_Changes.calls kj65 _ _ t307 _ _ t318 t321 _ ?side1 ?side2 ?side3 ?side4 A123.out).mono ?_); (case side1 => repeat (first | exact (Kd.R_reads' HO309.out).2.2 | (with_reducible refine Kd.C_alloc ?_ _) | (with_reducible refine Kd.C_drewN ?_ _) | (with_reducible refine Kd.C_drew ?_))); (case side2 => exact (Kd.R_reads' HO309.out).2.1); (case side3 => repeat (first | exact (Kd.R_reads' HO320.out).2.2 | (with_reducible refine Kd.C_alloc ?_ _) | (with_reducible refine Kd.C_drewN ?_ _) | (with_reducible refine Kd.C_drew ?_))); (case side4 => exact (Kd.R_reads' HO320.out).2.1); rintro e w' ⟨rfl, ⟨nd, rfl⟩⟩; (try first | exact ⟨rfl, _, World.drewN_drewN _ _ _⟩ | exact ⟨rfl, _, Eq.trans (World.drewN_drewN _ _ _) (congrArg (World.drewN _) (Nat.add_assoc _ _ _))⟩)))
                 go_meet
                 case rel => exact ⟨_, (!t321), (by first | rfl | (simp; done) | (simp [*]; done)), H', ⟨by have := HJ3.out; have := HJ21.out; have := HK3.out; have := HJ65.out; first | omega | exact Nat.le_refl _⟩, ⟨by (with_reducible repeat (first | apply Kd.V_alloc | apply Kd.V_drewN | apply Kd.V_drew)); exact Kd.V_mono HO_0.out (fun _ hk => ⟨hk.1.1.1.1, ⟨hk.1.1.1.2.1, ⟨hk.1.1.1.2.2.2.1, ⟨hk.1.1.1.2.2.2.2.1, ⟨hk.1.1.1.2.2.2.2.2.1, ⟨hk.1.1.1.2.2.2.2.2.2, hk.1.2⟩⟩⟩⟩⟩⟩)⟩, ⟨by (with_reducible repeat (first | apply Kd.R_alloc | apply Kd.R_drewN | apply Kd.R_drew)); exact Kd.R_mono HO_13.out (fun _ hk => hk.1.1)⟩, ⟨by (with_reducible repeat (first | apply Kd.V_alloc | apply Kd.V_drewN | apply Kd.V_drew)); exact Kd.V_mono HO_17.out (fun _ hk => ⟨hk.1.1.1.1, ⟨hk.1.1.1.2.1, ⟨hk.1.1.1.2.2.2.1, ⟨hk.1.1.1.2.2.2.2.1, ⟨hk.1.1.1.2.2.2.2.2.1, ⟨hk.1.1.1.2.2.2.2.2.2, hk.1.2⟩⟩⟩⟩⟩⟩)⟩, ⟨by exact BK278.out⟩, ⟨by exact BK286.out⟩, ⟨by exact BK294.out⟩, ⟨by exact BK306.out⟩, ⟨by exact BK313.out⟩, ⟨by repeat (first | (with_reducible first | exact HB.out | apply bA_ | apply bN_ | apply bD_ | refine bS_ ?_ GE278.out | refine bS_ ?_ GE286.out | refine bS_ ?_ GE294.out | refine bS_ ?_ GE306.out | refine bS_ ?_ GE313.out) | exact HB.out)⟩⟩
                ·rw [if_neg c121] at H
                 exfalso; have a_ := c93b0; have b_ : ¬ _ := c121; revert a_ b_; simp only [Bool.or_eq_false_iff, Bool.not_eq_false', Bool.and_eq_true, beq_iff_eq]; intro a_ b_; exact b_ a_
             case rest =>
              clear HC77
              obtain ⟨kq, x154_76, rfl, HA, HJ76, HO_0, HO_13, HO_17, BK278, BK286, BK294, BK306, BK313, HB⟩ := hcut
              cases kq with
              | zero => exact absurd HA.out (by simp [oriellaw35_MergeReplays.j4])
              | succ kj76 =>
               have H := HA.out
               clear HA
               simp only [oriellaw35_MergeReplays.j4] at H
               by_cases c146 : x154_76 = true
               ·subst c146
                have H1 : (none) = some r := by rw [if_pos rfl] at H; exact H
                clear H
                have H := H1
                clear H1
                exact absurd H (by simp)
               ·replace c146 := Bool.eq_false_iff.mpr c146
                subst c146
                have H1 : ((orielref35_Net.f kj76 l0 x17_65).bind fun t322 => ((orielref18_Changes.f kj76 t287 t322).bind fun t325 => (if t325 = true then ((oriellaw35_alive.f kj76).bind fun t326 => (some t326)) else (none)))) = some r := by rw [if_neg (show ¬ (false = true) by decide)] at H; exact H
                clear H
                have H := H1
                clear H1
                replace H := ob_ H
                obtain ⟨t322, A1470, H⟩ := H
                replace H : ((orielref18_Changes.f kj76 t287 t322).bind fun t325 => (if t325 = true then ((oriellaw35_alive.f kj76).bind fun t326 => (some t326)) else (none))) = some r := H
                have A147 := a0_ A1470
                clear A1470
                replace H := ob_ H
                obtain ⟨t325, A1480, H⟩ := H
                replace H : (if t325 = true then ((oriellaw35_alive.f kj76).bind fun t326 => (some t326)) else (none)) = some r := H
                have A148 := a0_ A1480
                clear A1480
                by_cases c149 : t325 = true
                ·subst c149
                 have H1 : ((oriellaw35_alive.f kj76).bind fun t326 => (some t326)) = some r := by rw [if_pos rfl] at H; exact H
                 clear H
                 have H := H1
                 clear H1
                 replace H := ob_ H
                 obtain ⟨t326, A1500, H⟩ := H
                 replace H : (some t326) = some r := H
                 have A150 := a0_ A1500
                 clear A1500
                 obtain rfl := Option.some.inj H
                 obtain ⟨Ao151, co151, eo151⟩ := Kd.V_slice HO_17.out
                 subst eo151
                 go_wp2_with (first | (go_at_call 18; (with_reducible refine (orielref35_Net.calls kj76 _ _ l0 _ _ x17_65 t322 _ ?side1 ?side2 ?side3 ?side4 A147.out).mono ?_); (case side1 => repeat (first | exact (Kd.V_reads' HO_0.out).2.2 | (with_reducible refine Kd.C_alloc ?_ _) | (with_reducible refine Kd.C_drewN ?_ _) | (with_reducible refine Kd.C_drew ?_))); (case side2 => exact (Kd.V_reads' HO_0.out).2.1); (case side3 => repeat (first | exact (Kd.V_reads' HO_17.out).2.2 | (with_reducible refine Kd.C_alloc ?_ _) | (with_reducible refine Kd.C_drewN ?_ _) | (with_reducible refine Kd.C_drew ?_))); (case side4 => exact (Kd.V_reads' HO_17.out).2.1); rintro e w152 ⟨v323, rfl, ho0, hb⟩; replace HO_0 := a0_ (Kd.V_elder' (by (with_reducible repeat (first | apply Kd.V_alloc | apply Kd.V_drewN | apply Kd.V_drew)); exact HO_0.out) (Kd.R_base ho0) hb); replace HO_17 := a0_ (Kd.V_elder' (by (with_reducible repeat (first | apply Kd.V_alloc | apply Kd.V_drewN | apply Kd.V_drew)); exact HO_17.out) (Kd.R_base ho0) hb); have HO324 := a0_ (Kd.R_lower (Kd.R_new' (Kd.R_newM (M := fun k_ => (w.heap.size ≤ k_)) ho0 (bZ_ (by repeat (first | (with_reducible first | exact HB.out | apply bA_ | apply bN_ | apply bD_ | refine bS_ ?_ GE278.out | refine bS_ ?_ GE286.out | refine bS_ ?_ GE294.out | refine bS_ ?_ GE306.out | refine bS_ ?_ GE313.out) | exact HB.out))) (fun k_ h_ => h_)) (Kd.R_lt (by (with_reducible repeat (first | apply Kd.R_alloc | apply Kd.R_drewN | apply Kd.R_drew)); exact HO_13.out))) (bZ_ (by repeat (first | (with_reducible first | exact HB.out | apply bA_ | apply bN_ | apply bD_ | refine bS_ ?_ GE278.out | refine bS_ ?_ GE286.out | refine bS_ ?_ GE294.out | refine bS_ ?_ GE306.out | refine bS_ ?_ GE313.out) | exact HB.out)))); replace HO_13 := a0_ (Kd.R_elder' (by (with_reducible repeat (first | apply Kd.R_alloc | apply Kd.R_drewN | apply Kd.R_drew)); exact HO_13.out) (Kd.R_base ho0) hb); replace BK278 := a0_ (kB_ (g := gb278) (o := .cells #[.int .i64 t275, .int .i64 t276, .int .i64 t277] 30 (0, 0)) (by exact BK278.out) hb); replace BK286 := a0_ (kB_ (g := gb286) (o := .cells #[.int .i64 t283, .int .i64 t284, .int .i64 t285] 30 (0, 0)) (by exact BK286.out) hb); replace BK294 := a0_ (kB_ (g := gb294) (o := .cells #[.int .i64 t291, .int .i64 t292, .int .i64 t293] 30 (0, 0)) (by exact BK294.out) hb); replace BK306 := a0_ (kB_ (g := gb306) (o := .cells #[.int .i64 t303, .int .i64 t304, .int .i64 t305] 30 (0, 0)) (by exact BK306.out) hb); replace BK313 := a0_ (kB_ (g := gb313) (o := .cells #[.int .i64 t310, .int .i64 t311, .int .i64 t312] 30 (0, 0)) (by exact BK313.out) hb); replace HB := a0_ (bT_ (by repeat (first | (with_reducible first | exact HB.out | apply bA_ | apply bN_ | apply bD_ | refine bS_ ?_ GE278.out | refine bS_ ?_ GE286.out | refine bS_ ?_ GE294.out | refine bS_ ?_ GE306.out | refine bS_ ?_ GE313.out) | exact HB.out)) hb); (try clear hb); (try clear hb2); (try clear hk); (try clear hi); (try clear ho0); obtain ⟨Ao153, co153, eo153⟩ := Kd.R_slice HO_13.out; subst eo153; obtain ⟨Ao154, co154, eo154⟩ := Kd.R_slice HO324.out; subst eo154) | (go_at_call 12; (with_reducible refine (orielref18_Changes.calls kj76 _ _ t287 _ _ t322 true _ ?side1 ?side2 ?side3 ?side4 A148.out).mono ?_); (case side1 => repeat (first | exact (Kd.R_reads' HO_13.out).2.2 | (with_reducible refine Kd.C_alloc ?_ _) | (with_reducible refine Kd.C_drewN ?_ _) | (with_reducible refine Kd.C_drew ?_))); (case side2 => exact (Kd.R_reads' HO_13.out).2.1); (case side3 => repeat (first | exact (Kd.R_reads' HO324.out).2.2 | (with_reducible refine Kd.C_alloc ?_ _) | (with_reducible refine Kd.C_drewN ?_ _) | (with_reducible refine Kd.C_drew ?_))); (case side4 => exact (Kd.R_reads' HO324.out).2.1); rintro e w' ⟨rfl, ⟨nd, rfl⟩⟩; (try first | exact ⟨rfl, _, World.drewN_drewN _ _ _⟩ | exact ⟨rfl, _, Eq.trans (World.drewN_drewN _ _ _) (congrArg (World.drewN _) (Nat.add_assoc _ _ _))⟩)) | (go_at_call 9; (with_reducible refine (oriellaw35_alive.calls kj76  t326 _ A150.out).mono ?_); rintro e w155 ⟨rfl, hb⟩; replace HO_0 := a0_ (Kd.V_below (by (with_reducible repeat (first | apply Kd.V_alloc | apply Kd.V_drewN | apply Kd.V_drew)); exact HO_0.out) hb); replace HO_13 := a0_ (Kd.R_below (by (with_reducible repeat (first | apply Kd.R_alloc | apply Kd.R_drewN | apply Kd.R_drew)); exact HO_13.out) hb); replace HO_17 := a0_ (Kd.V_below (by (with_reducible repeat (first | apply Kd.V_alloc | apply Kd.V_drewN | apply Kd.V_drew)); exact HO_17.out) hb); replace HO324 := a0_ (Kd.R_below (by (with_reducible repeat (first | apply Kd.R_alloc | apply Kd.R_drewN | apply Kd.R_drew)); exact HO324.out) hb); replace BK278 := a0_ (kB_ (g := gb278) (o := .cells #[.int .i64 t275, .int .i64 t276, .int .i64 t277] 30 (0, 0)) (by exact BK278.out) hb); replace BK286 := a0_ (kB_ (g := gb286) (o := .cells #[.int .i64 t283, .int .i64 t284, .int .i64 t285] 30 (0, 0)) (by exact BK286.out) hb); replace BK294 := a0_ (kB_ (g := gb294) (o := .cells #[.int .i64 t291, .int .i64 t292, .int .i64 t293] 30 (0, 0)) (by exact BK294.out) hb); replace BK306 := a0_ (kB_ (g := gb306) (o := .cells #[.int .i64 t303, .int .i64 t304, .int .i64 t305] 30 (0, 0)) (by exact BK306.out) hb); replace BK313 := a0_ (kB_ (g := gb313) (o := .cells #[.int .i64 t310, .int .i64 t311, .int .i64 t312] 30 (0, 0)) (by exact BK313.out) hb); replace HB := a0_ (bT_ (by repeat (first | (with_reducible first | exact HB.out | apply bA_ | apply bN_ | apply bD_ | refine bS_ ?_ GE278.out | refine bS_ ?_ GE286.out | refine bS_ ?_ GE294.out | refine bS_ ?_ GE306.out | refine bS_ ?_ GE313.out) | exact HB.out)) hb); (try clear hb); (try clear hb2); (try clear hk); (try clear hi)))
                 go_ret
                 exact ⟨by first | rfl | (simp [errW_none, errW_some] <;> rfl) | (simp [*, errW_none, errW_some] <;> rfl), by repeat (first | (with_reducible first | exact HB.out | apply bA_ | apply bN_ | apply bD_ | refine bS_ ?_ GE278.out | refine bS_ ?_ GE286.out | refine bS_ ?_ GE294.out | refine bS_ ?_ GE306.out | refine bS_ ?_ GE313.out) | exact HB.out)⟩
                ·replace c149 := Bool.eq_false_iff.mpr c149
                 subst c149
                 have H1 : (none) = some r := by rw [if_neg (show ¬ (false = true) by decide)] at H; exact H
                 clear H
                 have H := H1
                 clear H1
                 exact absurd H (by simp)
end Go.Proofs.Ytclcnglamlegiaa.PMR
