-- Written by ownprint.py, a program of this session (out of the kit's print, with contracts of the session's own).
import Derived.Test.YtmgeheomokjimaaPSox0
import Derived.Test.YtmgeheomokjimaaPSox2
import Derived.Test.YtmgeheomokjimaaPSox3
import Derived.Test.YtmgeheomokjimaaPSox6
import Derived.Test.YtmgeheomokjimaaPSox7
import Derived.Test.YtmgeheomokjimaaPSox9
import Derived.Test.YtmgeheomokjimaaPSox10
import Derived.Test.YtmgeheomokjimaaPSox11
import Derived.Test.YtmgeheomokjimaaPSox13
import Derived.Test.YtmgeheomokjimaaPSox20
import Derived.Test.YtmgeheomokjimaaPSox21
namespace Go.Proofs.Ytmgeheomokjimaa.PSo
open Go.RowKit Go.Proofs.YtmgeheomokjimaaW.PrintWords Go.Proofs.YtmgeheomokjimaaW.PrintLast Go.Proofs.YtmgeheomokjimaaW.PrintMore
attribute [local go_sem] max2_int min2_int max_two min_two max_three min_three max_four min_four   -- for this text's walks alone
set_option linter.unusedVariables false
set_option linter.unusedSimpArgs false
def oriellaw02_EditApplies.j0 : Nat → ByteArray → List (S47) → Int → Bool → Option (Bool)
 | 0, _, _, _, _ => none
 | k + 1, x0, x1, x2, x18 => if x18 = true then ((oriellaw02_alive.f k).bind fun t243 => (some t243)) else ((edit_Apply.f k x0 x1).bind fun bt244 => ((orielref02_Apply.f k x0 x1).bind fun bt246 => (if bt244.1.toList = bt246.1.toList then ((oriellaw01_No.f bt244.2).bind fun t248 => (if t248 = bt246.2 then ((edit_Check.f k x2 x1).bind fun t249 => ((oriellaw01_No.f t249).bind fun t250 => ((orielref02_Check.f k x2 x1).bind fun t251 => (if t250 = t251 then ((edit_Sorted.f k x1).bind fun t252 => ((orielref02_Sorted.f k x1).bind fun t255 => ((orielref02_Same.f k t252 t255).bind fun t258 => (if t258 = true then ((oriellaw02_alive.f k).bind fun t259 => (some t259)) else (none))))) else (none))))) else (none))) else (none))))
def oriellaw02_EditApplies.f (k : Nat) (a0 : ByteArray) (l1 : List (S47)) (a2 : Int) : Option (Bool) := if (a0.size : Int) > 400 then (oriellaw02_EditApplies.j0 k a0 l1 a2 true) else ((oriellaw02_few.f k l1).bind fun t242 => (oriellaw02_EditApplies.j0 k a0 l1 a2 (!t242)))
theorem oriellaw02_EditApplies.mono_l : ∀ k, (∀ y0 y1 y2 y3, LeO (oriellaw02_EditApplies.j0 k y0 y1 y2 y3) (oriellaw02_EditApplies.j0 (k + 1) y0 y1 y2 y3))
 | 0 => fun _ _ _ _ r h => by simp [oriellaw02_EditApplies.j0] at h
 | k + 1 => by
  have ih0 := oriellaw02_EditApplies.mono_l k
  ·intro y0 y1 y2 y3
   unfold oriellaw02_EditApplies.j0
   repeat' first
   | (with_reducible exact ih0 _ _ _ _)
   | (with_reducible exact edit_Apply.mono _ _ _)
   | (with_reducible exact edit_Check.mono _ _ _)
   | (with_reducible exact edit_Sorted.mono _ _)
   | (with_reducible exact oriellaw02_alive.mono _)
   | (with_reducible exact oriellaw02_few.mono _ _)
   | (with_reducible exact orielref02_Apply.mono _ _ _)
   | (with_reducible exact orielref02_Check.mono _ _ _)
   | (with_reducible exact orielref02_Same.mono _ _ _)
   | (with_reducible exact orielref02_Sorted.mono _ _)
   | (with_reducible exact LeO.refl _)
   | (with_reducible exact LeO.none _)
   | (with_reducible refine LeO.ite ?_ ?_)
   | (with_reducible refine LeO.bind ?_ (fun _ => ?_))
   | exact ih0 _ _ _ _
   | exact edit_Apply.mono _ _ _
   | exact edit_Check.mono _ _ _
   | exact edit_Sorted.mono _ _
   | exact oriellaw02_alive.mono _
   | exact oriellaw02_few.mono _ _
   | exact orielref02_Apply.mono _ _ _
   | exact orielref02_Check.mono _ _ _
   | exact orielref02_Same.mono _ _ _
   | exact orielref02_Sorted.mono _ _
   | exact LeO.none _
   | refine LeO.ite ?_ ?_
   | refine LeO.bind ?_ (fun _ => ?_)
theorem oriellaw02_EditApplies.mono : ∀ a0 a1 a2 k, LeO (oriellaw02_EditApplies.f k a0 a1 a2) (oriellaw02_EditApplies.f (k + 1) a0 a1 a2) := by
 intro a0 a1 a2 k
 have ih0 := oriellaw02_EditApplies.mono_l k
 unfold oriellaw02_EditApplies.f
 repeat' first
   | (with_reducible exact ih0 _ _ _ _)
   | (with_reducible exact edit_Apply.mono _ _ _)
   | (with_reducible exact edit_Check.mono _ _ _)
   | (with_reducible exact edit_Sorted.mono _ _)
   | (with_reducible exact oriellaw02_alive.mono _)
   | (with_reducible exact oriellaw02_few.mono _ _)
   | (with_reducible exact orielref02_Apply.mono _ _ _)
   | (with_reducible exact orielref02_Check.mono _ _ _)
   | (with_reducible exact orielref02_Same.mono _ _ _)
   | (with_reducible exact orielref02_Sorted.mono _ _)
   | (with_reducible exact LeO.refl _)
   | (with_reducible exact LeO.none _)
   | (with_reducible refine LeO.ite ?_ ?_)
   | (with_reducible refine LeO.bind ?_ (fun _ => ?_))
   | exact ih0 _ _ _ _
   | exact edit_Apply.mono _ _ _
   | exact edit_Check.mono _ _ _
   | exact edit_Sorted.mono _ _
   | exact oriellaw02_alive.mono _
   | exact oriellaw02_few.mono _ _
   | exact orielref02_Apply.mono _ _ _
   | exact orielref02_Check.mono _ _ _
   | exact orielref02_Same.mono _ _ _
   | exact orielref02_Sorted.mono _ _
   | exact LeO.none _
   | refine LeO.ite ?_ ?_
   | refine LeO.bind ?_ (fun _ => ?_)
set_option maxHeartbeats 8000000 in
set_option maxRecDepth 100000 in
theorem oriellaw02_EditApplies.calls (k : Nat) (a0 : ByteArray) (A1 : Option Addr) (c1 : Nat) (l1 : List (S47)) (a2 : Int) (r : Bool) (w : World) (hr1 : Kd.C k47 w A1 l1.length l1) (hc1 : l1.length ≤ c1) (h : oriellaw02_EditApplies.f k a0 l1 a2 = some r) :
  Calls Try.prog 7 #[.string a0, .slice A1 l1.length c1, .int .i64 a2] w fun e w' => e = .returned (.bool r) ∧ Below w.heap.size w w' := by
 have HR1 := Aside0.mk hr1
 have HC1 := Aside0.mk hc1
 clear hr1 hc1
 have HB := Aside0.mk (Below.refl w.heap.size w)
 have H : (if (a0.size : Int) > 400 then (oriellaw02_EditApplies.j0 k a0 l1 a2 true) else ((oriellaw02_few.f k l1).bind fun t242 => (oriellaw02_EditApplies.j0 k a0 l1 a2 (!t242)))) = some r := h
 clear h
 have HC4 := Aside0.mk H
 clear H
 go_enter Try.func7, Try.ntmps7
 go_upto_region 1 with (fail)
 go_cut [18] (fun v18 wc => ∃ (kq : Nat) (x18_3 : Bool), v18 = .bool x18_3 ∧ Aside0 (oriellaw02_EditApplies.j0 kq a0 l1 a2 x18_3 = some r) ∧ Aside0 (kq ≤ k) ∧ Aside0 (Below w.heap.size w wc))
 case first =>
  have H := HC4.out
  clear HC4
  by_cases c5 : (a0.size : Int) > 400
  ·rw [if_pos c5] at H
   have c5b0 : decide (400 < (a0.size : Int)) = true := decide_eq_true c5
   have c5b1 : decide (400 < a0.size) = true := decide_eq_true (by omega)
   clear c5
   (first | rw [c5b0] | (simp only [i64_w, i32_w]; rw [c5b0]) | skip)
   have H' := Aside0.mk H
   clear H
   go_wp2
   go_meet
   case rel => exact ⟨_, (true), (by first | rfl | (simp; done) | (simp [*]; done)), H', ⟨by first | omega | exact Nat.le_refl _⟩, ⟨by repeat (first | (with_reducible first | exact HB.out | apply below_alloc | apply pw_below_drewN | apply below_drew1) | exact HB.out)⟩⟩
  ·rw [if_neg c5] at H
   have c5b0 : decide (400 < (a0.size : Int)) = false := decide_eq_false c5
   have c5b1 : decide (400 < a0.size) = false := decide_eq_false (by omega)
   clear c5
   (first | rw [c5b0] | (simp only [i64_w, i32_w]; rw [c5b0]) | skip)
   replace H := Option.bind_eq_some_iff.mp H
   obtain ⟨t242, A60, H⟩ := H
   replace H : (oriellaw02_EditApplies.j0 k a0 l1 a2 (!t242)) = some r := H
   have A6 := Aside0.mk A60
   clear A60
   have H' := Aside0.mk H
   clear H
   go_wp2_with (first | (go_at_call 9; (with_reducible refine (oriellaw02_few.calls k _ _ l1 t242 _ ?side1 ?side2 A6.out).mono ?_); (case side1 => repeat (first | exact (Kd.C_below HR1.out HB.out) | (with_reducible refine Kd.C_alloc ?_ _) | (with_reducible refine Kd.C_drewN ?_ _) | (with_reducible refine Kd.C_drew ?_))); (case side2 => exact HC1.out); rintro e w7 ⟨rfl, hb⟩; have n0_ := Aside0.mk (below_step (by repeat (first | (with_reducible first | exact HB.out | apply below_alloc | apply pw_below_drewN | apply below_drew1) | exact HB.out)) hb); clear HB; have HB := n0_; clear n0_; (try clear hb); (try clear hb2); (try clear hk); (try clear hi)))
   go_meet
   case rel => exact ⟨_, (!t242), (by first | rfl | (simp; done) | (simp [*]; done)), H', ⟨by first | omega | exact Nat.le_refl _⟩, ⟨by repeat (first | (with_reducible first | exact HB.out | apply below_alloc | apply pw_below_drewN | apply below_drew1) | exact HB.out)⟩⟩
 case rest =>
  clear HC4
  (try clear c1);(try clear p2);(try clear c5);(try clear c5b0);(try clear c5b1);(try clear c7)
  obtain ⟨kq, x18_3, rfl, HA, HJ3, HB⟩ := hcut
  cases kq with
  | zero => exact absurd HA.out (by simp [oriellaw02_EditApplies.j0])
  | succ kj3 =>
   have H := HA.out
   clear HA
   simp only [oriellaw02_EditApplies.j0] at H
   by_cases c8 : x18_3 = true
   ·subst c8
    have H1 : ((oriellaw02_alive.f kj3).bind fun t243 => (some t243)) = some r := by rw [if_pos rfl] at H; exact H
    clear H
    have H := H1
    clear H1
    replace H := Option.bind_eq_some_iff.mp H
    obtain ⟨t243, A90, H⟩ := H
    replace H : (some t243) = some r := H
    have A9 := Aside0.mk A90
    clear A90
    obtain rfl := Option.some.inj H
    go_wp2_with (first | ((with_reducible refine gate_callee (f := 10) rfl ?_); refine goesL_ (some 19) rfl rfl Try.func10 (by kernel_rfl) rfl #[] rfl (by (try simp only [List.map_toArray, List.map_cons, List.map_nil]); first | done | rfl | (simp only [List.length_drop, List.length_take]; rfl)) ?_; (with_reducible refine (oriellaw02_alive.calls kj3  t243 _ A9.out).mono ?_); rintro e w10 ⟨rfl, hb⟩; refine ⟨_, rfl, ?_⟩; have n0_ := Aside0.mk (below_step (by repeat (first | (with_reducible first | exact HB.out | apply below_alloc | apply pw_below_drewN | apply below_drew1) | exact HB.out)) hb); clear HB; have HB := n0_; clear n0_; (try clear hb); (try clear hb2); (try clear hk); (try clear hi)))
    go_ret
    exact ⟨by first | rfl | (simp [errW_none, errW_some] <;> rfl) | (simp [*, errW_none, errW_some] <;> rfl), by repeat (first | (with_reducible first | exact HB.out | apply below_alloc | apply pw_below_drewN | apply below_drew1) | exact HB.out)⟩
   ·replace c8 := Bool.eq_false_iff.mpr c8
    subst c8
    have H1 : ((edit_Apply.f kj3 a0 l1).bind fun bt244 => ((orielref02_Apply.f kj3 a0 l1).bind fun bt246 => (if bt244.1.toList = bt246.1.toList then ((oriellaw01_No.f bt244.2).bind fun t248 => (if t248 = bt246.2 then ((edit_Check.f kj3 a2 l1).bind fun t249 => ((oriellaw01_No.f t249).bind fun t250 => ((orielref02_Check.f kj3 a2 l1).bind fun t251 => (if t250 = t251 then ((edit_Sorted.f kj3 l1).bind fun t252 => ((orielref02_Sorted.f kj3 l1).bind fun t255 => ((orielref02_Same.f kj3 t252 t255).bind fun t258 => (if t258 = true then ((oriellaw02_alive.f kj3).bind fun t259 => (some t259)) else (none))))) else (none))))) else (none))) else (none)))) = some r := by rw [if_neg (show ¬ (false = true) by decide)] at H; exact H
    clear H
    have H := H1
    clear H1
    replace H := Option.bind_eq_some_iff.mp H
    obtain ⟨⟨t244, t245⟩, A110, H⟩ := H
    replace H : ((orielref02_Apply.f kj3 a0 l1).bind fun bt246 => (if t244.toList = bt246.1.toList then ((oriellaw01_No.f t245).bind fun t248 => (if t248 = bt246.2 then ((edit_Check.f kj3 a2 l1).bind fun t249 => ((oriellaw01_No.f t249).bind fun t250 => ((orielref02_Check.f kj3 a2 l1).bind fun t251 => (if t250 = t251 then ((edit_Sorted.f kj3 l1).bind fun t252 => ((orielref02_Sorted.f kj3 l1).bind fun t255 => ((orielref02_Same.f kj3 t252 t255).bind fun t258 => (if t258 = true then ((oriellaw02_alive.f kj3).bind fun t259 => (some t259)) else (none))))) else (none))))) else (none))) else (none))) = some r := H
    have A11 := Aside0.mk A110
    clear A110
    replace H := Option.bind_eq_some_iff.mp H
    obtain ⟨⟨t246, t247⟩, A120, H⟩ := H
    replace H : (if t244.toList = t246.toList then ((oriellaw01_No.f t245).bind fun t248 => (if t248 = t247 then ((edit_Check.f kj3 a2 l1).bind fun t249 => ((oriellaw01_No.f t249).bind fun t250 => ((orielref02_Check.f kj3 a2 l1).bind fun t251 => (if t250 = t251 then ((edit_Sorted.f kj3 l1).bind fun t252 => ((orielref02_Sorted.f kj3 l1).bind fun t255 => ((orielref02_Same.f kj3 t252 t255).bind fun t258 => (if t258 = true then ((oriellaw02_alive.f kj3).bind fun t259 => (some t259)) else (none))))) else (none))))) else (none))) else (none)) = some r := H
    have A12 := Aside0.mk A120
    clear A120
    by_cases c13 : t244.toList = t246.toList
    ·rw [if_pos c13] at H
     have c13b0 : (t244.toList == t246.toList) = true := beq_iff_eq.mpr c13
     have c13b1 : (t244.toList != t246.toList) = false := bne_eq_false_iff_eq.mpr c13
     clear c13
     replace H := Option.bind_eq_some_iff.mp H
     obtain ⟨t248, A140, H⟩ := H
     replace H : (if t248 = t247 then ((edit_Check.f kj3 a2 l1).bind fun t249 => ((oriellaw01_No.f t249).bind fun t250 => ((orielref02_Check.f kj3 a2 l1).bind fun t251 => (if t250 = t251 then ((edit_Sorted.f kj3 l1).bind fun t252 => ((orielref02_Sorted.f kj3 l1).bind fun t255 => ((orielref02_Same.f kj3 t252 t255).bind fun t258 => (if t258 = true then ((oriellaw02_alive.f kj3).bind fun t259 => (some t259)) else (none))))) else (none))))) else (none)) = some r := H
     have A14 := Aside0.mk A140
     clear A140
     by_cases c15 : t248 = t247
     ·rw [if_pos c15] at H
      have c15b0 : (t248 == t247) = true := beq_iff_eq.mpr c15
      have c15b1 : (t248 != t247) = false := bne_eq_false_iff_eq.mpr c15
      clear c15
      replace H := Option.bind_eq_some_iff.mp H
      obtain ⟨t249, A160, H⟩ := H
      replace H : ((oriellaw01_No.f t249).bind fun t250 => ((orielref02_Check.f kj3 a2 l1).bind fun t251 => (if t250 = t251 then ((edit_Sorted.f kj3 l1).bind fun t252 => ((orielref02_Sorted.f kj3 l1).bind fun t255 => ((orielref02_Same.f kj3 t252 t255).bind fun t258 => (if t258 = true then ((oriellaw02_alive.f kj3).bind fun t259 => (some t259)) else (none))))) else (none)))) = some r := H
      have A16 := Aside0.mk A160
      clear A160
      replace H := Option.bind_eq_some_iff.mp H
      obtain ⟨t250, A170, H⟩ := H
      replace H : ((orielref02_Check.f kj3 a2 l1).bind fun t251 => (if t250 = t251 then ((edit_Sorted.f kj3 l1).bind fun t252 => ((orielref02_Sorted.f kj3 l1).bind fun t255 => ((orielref02_Same.f kj3 t252 t255).bind fun t258 => (if t258 = true then ((oriellaw02_alive.f kj3).bind fun t259 => (some t259)) else (none))))) else (none))) = some r := H
      have A17 := Aside0.mk A170
      clear A170
      replace H := Option.bind_eq_some_iff.mp H
      obtain ⟨t251, A180, H⟩ := H
      replace H : (if t250 = t251 then ((edit_Sorted.f kj3 l1).bind fun t252 => ((orielref02_Sorted.f kj3 l1).bind fun t255 => ((orielref02_Same.f kj3 t252 t255).bind fun t258 => (if t258 = true then ((oriellaw02_alive.f kj3).bind fun t259 => (some t259)) else (none))))) else (none)) = some r := H
      have A18 := Aside0.mk A180
      clear A180
      by_cases c19 : t250 = t251
      ·rw [if_pos c19] at H
       have c19b0 : (t250 == t251) = true := beq_iff_eq.mpr c19
       have c19b1 : (t250 != t251) = false := bne_eq_false_iff_eq.mpr c19
       clear c19
       replace H := Option.bind_eq_some_iff.mp H
       obtain ⟨t252, A200, H⟩ := H
       replace H : ((orielref02_Sorted.f kj3 l1).bind fun t255 => ((orielref02_Same.f kj3 t252 t255).bind fun t258 => (if t258 = true then ((oriellaw02_alive.f kj3).bind fun t259 => (some t259)) else (none)))) = some r := H
       have A20 := Aside0.mk A200
       clear A200
       replace H := Option.bind_eq_some_iff.mp H
       obtain ⟨t255, A210, H⟩ := H
       replace H : ((orielref02_Same.f kj3 t252 t255).bind fun t258 => (if t258 = true then ((oriellaw02_alive.f kj3).bind fun t259 => (some t259)) else (none))) = some r := H
       have A21 := Aside0.mk A210
       clear A210
       replace H := Option.bind_eq_some_iff.mp H
       obtain ⟨t258, A220, H⟩ := H
       replace H : (if t258 = true then ((oriellaw02_alive.f kj3).bind fun t259 => (some t259)) else (none)) = some r := H
       have A22 := Aside0.mk A220
       clear A220
       by_cases c23 : t258 = true
       ·subst c23
        have H1 : ((oriellaw02_alive.f kj3).bind fun t259 => (some t259)) = some r := by rw [if_pos rfl] at H; exact H
        clear H
        have H := H1
        clear H1
        replace H := Option.bind_eq_some_iff.mp H
        obtain ⟨t259, A240, H⟩ := H
        replace H : (some t259) = some r := H
        have A24 := Aside0.mk A240
        clear A240
        obtain rfl := Option.some.inj H
        go_wp2_with (first | ((with_reducible refine gate_callee (f := 18) rfl ?_); refine goesL_ (some 23) rfl rfl Try.func18 (by kernel_rfl) rfl #[.string a0, .slice A1 l1.length c1] rfl (by (try simp only [List.map_toArray, List.map_cons, List.map_nil]); first | done | rfl | (simp only [List.length_drop, List.length_take]; rfl)) ?_; (with_reducible refine (edit_Apply.calls kj3 a0 _ _ l1 t244 t245 _ ?side1 ?side2 A11.out).mono ?_); (case side1 => repeat (first | exact (Kd.C_below HR1.out HB.out) | (with_reducible refine Kd.C_alloc ?_ _) | (with_reducible refine Kd.C_drewN ?_ _) | (with_reducible refine Kd.C_drew ?_))); (case side2 => exact HC1.out); rintro e w25 ⟨rfl, hb⟩; refine ⟨_, rfl, ?_⟩; have n0_ := Aside0.mk (below_step (by repeat (first | (with_reducible first | exact HB.out | apply below_alloc | apply pw_below_drewN | apply below_drew1) | exact HB.out)) hb); clear HB; have HB := n0_; clear n0_; (try clear hb); (try clear hb2); (try clear hk); (try clear hi)) | ((with_reducible refine gate_callee (f := 21) rfl ?_); refine goesL_ (some 29) rfl rfl Try.func21 (by kernel_rfl) rfl #[.string a0, .slice A1 l1.length c1] rfl (by (try simp only [List.map_toArray, List.map_cons, List.map_nil]); first | done | rfl | (simp only [List.length_drop, List.length_take]; rfl)) ?_; (with_reducible refine (orielref02_Apply.calls kj3 a0 _ _ l1 t246 t247 _ ?side1 ?side2 A12.out).mono ?_); (case side1 => repeat (first | exact (Kd.C_below HR1.out HB.out) | (with_reducible refine Kd.C_alloc ?_ _) | (with_reducible refine Kd.C_drewN ?_ _) | (with_reducible refine Kd.C_drew ?_))); (case side2 => exact HC1.out); rintro e w' ⟨rfl, ⟨nd, rfl⟩⟩; refine ⟨_, rfl, ?_⟩) | (go_at_call 17; (with_reducible refine (oriellaw01_No.calls t245 t248 _ A14.out).mono ?_); rintro e w' ⟨rfl, ⟨nd, rfl⟩⟩) | (go_at_call 22; (with_reducible refine (edit_Check.calls kj3 a2 _ _ l1 t249 _ ?side1 ?side2 A16.out).mono ?_); (case side1 => repeat (first | exact (Kd.C_below HR1.out (by repeat (first | (with_reducible first | exact HB.out | apply below_alloc | apply pw_below_drewN | apply below_drew1) | exact HB.out))) | (with_reducible refine Kd.C_alloc ?_ _) | (with_reducible refine Kd.C_drewN ?_ _) | (with_reducible refine Kd.C_drew ?_))); (case side2 => exact HC1.out); rintro e w26 ⟨rfl, hb⟩; have n0_ := Aside0.mk (below_step (by repeat (first | (with_reducible first | exact HB.out | apply below_alloc | apply pw_below_drewN | apply below_drew1) | exact HB.out)) hb); clear HB; have HB := n0_; clear n0_; (try clear hb); (try clear hb2); (try clear hk); (try clear hi)) | (go_at_call 17; (with_reducible refine (oriellaw01_No.calls t249 t250 _ A17.out).mono ?_); rintro e w' ⟨rfl, ⟨nd, rfl⟩⟩) | (go_at_call 23; (with_reducible refine (orielref02_Check.calls kj3 a2 _ _ l1 t251 _ ?side1 ?side2 A18.out).mono ?_); (case side1 => repeat (first | exact (Kd.C_below HR1.out (by repeat (first | (with_reducible first | exact HB.out | apply below_alloc | apply pw_below_drewN | apply below_drew1) | exact HB.out))) | (with_reducible refine Kd.C_alloc ?_ _) | (with_reducible refine Kd.C_drewN ?_ _) | (with_reducible refine Kd.C_drew ?_))); (case side2 => exact HC1.out); rintro e w' ⟨rfl, ⟨nd, rfl⟩⟩) | (go_at_call 25; (with_reducible refine (edit_Sorted.calls kj3 _ _ l1 t252 _ ?side1 ?side2 A20.out).mono ?_); (case side1 => repeat (first | exact (Kd.C_below HR1.out (by repeat (first | (with_reducible first | exact HB.out | apply below_alloc | apply pw_below_drewN | apply below_drew1) | exact HB.out))) | (with_reducible refine Kd.C_alloc ?_ _) | (with_reducible refine Kd.C_drewN ?_ _) | (with_reducible refine Kd.C_drew ?_))); (case side2 => exact HC1.out); rintro e w27 ⟨v253, rfl, ho0, hb⟩; have n0_ := Aside0.mk (Kd.R_lower ho0 (below_size (by repeat (first | (with_reducible first | exact HB.out | apply below_alloc | apply pw_below_drewN | apply below_drew1) | exact HB.out)))); have n1_ := Aside0.mk (below_step (by repeat (first | (with_reducible first | exact HB.out | apply below_alloc | apply pw_below_drewN | apply below_drew1) | exact HB.out)) hb); clear HB; have HO254 := n0_; have HB := n1_; clear n0_ n1_; (try clear hb); (try clear hb2); (try clear hk); (try clear hi); (try clear ho0)) | (go_at_call 26; (with_reducible refine (orielref02_Sorted.calls kj3 _ _ l1 t255 _ ?side1 ?side2 A21.out).mono ?_); (case side1 => repeat (first | exact (Kd.C_below HR1.out HB.out) | (with_reducible refine Kd.C_alloc ?_ _) | (with_reducible refine Kd.C_drewN ?_ _) | (with_reducible refine Kd.C_drew ?_))); (case side2 => exact HC1.out); rintro e w28 ⟨v256, rfl, ho0, hb⟩; have n0_ := Aside0.mk (Kd.R_elder' (by (with_reducible repeat (first | apply Kd.R_alloc | apply Kd.R_drewN | apply Kd.R_drew)); exact HO254.out) (Kd.R_base ho0) hb); have n1_ := Aside0.mk (Kd.R_lower (Kd.R_new' ho0 (Kd.R_lt (by (with_reducible repeat (first | apply Kd.R_alloc | apply Kd.R_drewN | apply Kd.R_drew)); exact HO254.out))) (below_size (by repeat (first | (with_reducible first | exact HB.out | apply below_alloc | apply pw_below_drewN | apply below_drew1) | exact HB.out)))); have n2_ := Aside0.mk (below_step (by repeat (first | (with_reducible first | exact HB.out | apply below_alloc | apply pw_below_drewN | apply below_drew1) | exact HB.out)) hb); clear HO254; clear HB; have HO254 := n0_; have HO257 := n1_; have HB := n2_; clear n0_ n1_ n2_; (try clear hb); (try clear hb2); (try clear hk); (try clear hi); (try clear ho0); obtain ⟨Ao29, co29, eo29⟩ := Kd.R_slice HO254.out; subst eo29; obtain ⟨Ao30, co30, eo30⟩ := Kd.R_slice HO257.out; subst eo30) | (go_at_call 24; (with_reducible refine (orielref02_Same.calls kj3 _ _ t252 _ _ t255 true _ ?side1 ?side2 ?side3 ?side4 A22.out).mono ?_); (case side1 => repeat (first | exact (Kd.R_reads' HO254.out).2.2 | (with_reducible refine Kd.C_alloc ?_ _) | (with_reducible refine Kd.C_drewN ?_ _) | (with_reducible refine Kd.C_drew ?_))); (case side2 => exact (Kd.R_reads' HO254.out).2.1); (case side3 => repeat (first | exact (Kd.R_reads' HO257.out).2.2 | (with_reducible refine Kd.C_alloc ?_ _) | (with_reducible refine Kd.C_drewN ?_ _) | (with_reducible refine Kd.C_drew ?_))); (case side4 => exact (Kd.R_reads' HO257.out).2.1); rintro e w' ⟨rfl, ⟨nd, rfl⟩⟩) | (go_at_call 10; (with_reducible refine (oriellaw02_alive.calls kj3  t259 _ A24.out).mono ?_); rintro e w31 ⟨rfl, hb⟩; have n0_ := Aside0.mk (Kd.R_below (by (with_reducible repeat (first | apply Kd.R_alloc | apply Kd.R_drewN | apply Kd.R_drew)); exact HO254.out) hb); have n1_ := Aside0.mk (Kd.R_below (by (with_reducible repeat (first | apply Kd.R_alloc | apply Kd.R_drewN | apply Kd.R_drew)); exact HO257.out) hb); have n2_ := Aside0.mk (below_step (by repeat (first | (with_reducible first | exact HB.out | apply below_alloc | apply pw_below_drewN | apply below_drew1) | exact HB.out)) hb); clear HO254; clear HO257; clear HB; have HO254 := n0_; have HO257 := n1_; have HB := n2_; clear n0_ n1_ n2_; (try clear hb); (try clear hb2); (try clear hk); (try clear hi)))
        go_ret
        exact ⟨by first | rfl | (simp [errW_none, errW_some] <;> rfl) | (simp [*, errW_none, errW_some] <;> rfl), by repeat (first | (with_reducible first | exact HB.out | apply below_alloc | apply pw_below_drewN | apply below_drew1) | exact HB.out)⟩
       ·replace c23 := Bool.eq_false_iff.mpr c23
        subst c23
        have H1 : (none) = some r := by rw [if_neg (show ¬ (false = true) by decide)] at H; exact H
        clear H
        have H := H1
        clear H1
        exact absurd H (by simp)
      ·rw [if_neg c19] at H
       exact absurd H (by simp)
     ·rw [if_neg c15] at H
      exact absurd H (by simp)
    ·rw [if_neg c13] at H
     exact absurd H (by simp)
end Go.Proofs.Ytmgeheomokjimaa.PSo
