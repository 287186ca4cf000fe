-- Written by ownprint.py, a program of this session (out of the kit's print, with contracts of the session's own).
import Derived.Test.YtmgeheomokjimaaPAllx0
import Derived.Test.YtmgeheomokjimaaPAllx3
import Derived.Test.YtmgeheomokjimaaPAllx7
import Derived.Test.YtmgeheomokjimaaPAllx8
import Derived.Test.YtmgeheomokjimaaPAllx11
import Derived.Test.YtmgeheomokjimaaPAllx22
namespace Go.Proofs.Ytmgeheomokjimaa.PAll
open Go.RowKit Go.Proofs.YtmgeheomokjimaaW.PrintWords Go.Proofs.YtmgeheomokjimaaW.PrintLast Go.Proofs.YtmgeheomokjimaaW.PrintMore
attribute [local go_sem] max2_int min2_int max_two min_two max_three min_three max_four min_four   -- for this text's walks alone
set_option linter.unusedVariables false
set_option linter.unusedSimpArgs false

/-! ### oriellaw02_EditThen: function 6 -/
def oriellaw02_EditThen.j0 : Nat → ByteArray → List (S47) → List (S47) → Bool → Option (Bool)
  | 0, _, _, _, _ => none
  | k + 1, x0, x1, x2, x27 => if x27 = true then ((oriellaw02_alive.f k).bind fun t251 => (some t251)) else ((edit_Apply.f k x0 x1).bind fun bt252 => ((edit_Apply.f k bt252.1 x2).bind fun bt254 => ((edit_Then.f k x0 x1 x2).bind fun bt256 => ((oriellaw01_No.f bt252.2).bind fun t260 => (if t260 = 0 then ((oriellaw01_No.f bt254.2).bind fun t264 => (if t264 = 0 then ((edit_Apply.f k x0 bt256.1).bind fun bt268 => ((oriellaw01_No.f bt256.2).bind fun t270 => ((oriellaw01_No.f bt268.2).bind fun t271 => (if (wrap64 (t270 + t271)) = 0 then (if bt268.1.toList = bt254.1.toList then (if (bt256.1.length : Int) ≤ 1 then (if (bt256.1.length : Int) > 0 then ((oriellaw02_alive.f k).bind fun t272 => (some t272)) else (if (wrap64 ((x1.length : Int) + (x2.length : Int))) = 0 then ((oriellaw02_alive.f k).bind fun t273 => (some t273)) else (none))) else (none)) else (none)) else (none))))) else ((oriellaw01_No.f bt256.2).bind fun t265 => ((oriellaw01_No.f bt254.2).bind fun t266 => (if t265 = t264 then (if (bt256.1.length : Int) = 0 then ((oriellaw02_alive.f k).bind fun t267 => (some t267)) else (none)) else (none)))))) else ((oriellaw01_No.f bt256.2).bind fun t261 => ((oriellaw01_No.f bt252.2).bind fun t262 => (if t261 = t260 then (if (bt256.1.length : Int) = 0 then ((oriellaw02_alive.f k).bind fun t263 => (some t263)) else (none)) else (none)))))))))
def oriellaw02_EditThen.f (k : Nat) (a0 : ByteArray) (l1 : List (S47)) (l2 : List (S47)) : Option (Bool) := if (a0.size : Int) > 1000 then (oriellaw02_EditThen.j0 k a0 l1 l2 true) else ((oriellaw02_few.f k l1).bind fun t249 => (if t249 = true then ((oriellaw02_few.f k l2).bind fun t250 => (oriellaw02_EditThen.j0 k a0 l1 l2 (!t250))) else (oriellaw02_EditThen.j0 k a0 l1 l2 true)))
theorem oriellaw02_EditThen.mono_l : ∀ k, (∀ y0 y1 y2 y3, LeO (oriellaw02_EditThen.j0 k y0 y1 y2 y3) (oriellaw02_EditThen.j0 (k + 1) y0 y1 y2 y3))
  | 0 => fun _ _ _ _ r h => by simp [oriellaw02_EditThen.j0] at h
  | k + 1 => by
    have ih0 := oriellaw02_EditThen.mono_l k
    · intro y0 y1 y2 y3
      unfold oriellaw02_EditThen.j0
      repeat' first
      | (with_reducible exact ih0 _ _ _ _)
      | (with_reducible exact edit_Apply.mono _ _ _)
      | (with_reducible exact edit_Then.mono _ _ _ _)
      | (with_reducible exact oriellaw02_alive.mono _)
      | (with_reducible exact oriellaw02_few.mono _ _)
      | (with_reducible exact LeO.refl _)
      | (with_reducible exact LeO.none _)
      | (with_reducible refine LeO.ite ?_ ?_)
      | (with_reducible refine LeO.bind ?_ (fun _ => ?_))
      | exact ih0 _ _ _ _
      | exact edit_Apply.mono _ _ _
      | exact edit_Then.mono _ _ _ _
      | exact oriellaw02_alive.mono _
      | exact oriellaw02_few.mono _ _
      | exact LeO.none _
      | refine LeO.ite ?_ ?_
      | refine LeO.bind ?_ (fun _ => ?_)
theorem oriellaw02_EditThen.mono : ∀ a0 a1 a2 k, LeO (oriellaw02_EditThen.f k a0 a1 a2) (oriellaw02_EditThen.f (k + 1) a0 a1 a2) := by
  intro a0 a1 a2 k
  have ih0 := oriellaw02_EditThen.mono_l k
  unfold oriellaw02_EditThen.f
  repeat' first
      | (with_reducible exact ih0 _ _ _ _)
      | (with_reducible exact edit_Apply.mono _ _ _)
      | (with_reducible exact edit_Then.mono _ _ _ _)
      | (with_reducible exact oriellaw02_alive.mono _)
      | (with_reducible exact oriellaw02_few.mono _ _)
      | (with_reducible exact LeO.refl _)
      | (with_reducible exact LeO.none _)
      | (with_reducible refine LeO.ite ?_ ?_)
      | (with_reducible refine LeO.bind ?_ (fun _ => ?_))
      | exact ih0 _ _ _ _
      | exact edit_Apply.mono _ _ _
      | exact edit_Then.mono _ _ _ _
      | exact oriellaw02_alive.mono _
      | exact oriellaw02_few.mono _ _
      | exact LeO.none _
      | refine LeO.ite ?_ ?_
      | refine LeO.bind ?_ (fun _ => ?_)
set_option maxHeartbeats 8000000 in
set_option maxRecDepth 100000 in
theorem oriellaw02_EditThen.calls (k : Nat) (a0 : ByteArray) (A1 : Option Addr) (c1 : Nat) (l1 : List (S47)) (A2 : Option Addr) (c2 : Nat) (l2 : List (S47)) (r : Bool) (w : World) (hr1 : Kd.C k47 w A1 l1.length l1) (hc1 : l1.length ≤ c1) (hr2 : Kd.C k47 w A2 l2.length l2) (hc2 : l2.length ≤ c2) (h : oriellaw02_EditThen.f k a0 l1 l2 = some r) :
    Calls Try.prog 6 #[.string a0, .slice A1 l1.length c1, .slice A2 l2.length c2] w fun e w' => e = .returned (.bool r) ∧ Below w.heap.size w w' := by
  have HR1 := Aside0.mk hr1
  have HC1 := Aside0.mk hc1
  clear hr1 hc1
  have HR2 := Aside0.mk hr2
  have HC2 := Aside0.mk hc2
  clear hr2 hc2
  have HB := Aside0.mk (Below.refl w.heap.size w)
  have H : (if (a0.size : Int) > 1000 then (oriellaw02_EditThen.j0 k a0 l1 l2 true) else ((oriellaw02_few.f k l1).bind fun t249 => (if t249 = true then ((oriellaw02_few.f k l2).bind fun t250 => (oriellaw02_EditThen.j0 k a0 l1 l2 (!t250))) else (oriellaw02_EditThen.j0 k a0 l1 l2 true)))) = some r := h
  clear h
  have HC4 := Aside0.mk H
  clear H
  go_enter Try.func6, Try.ntmps6
  go_upto_region 1 with (fail)
  go_cut [27] (fun v27 wc => ∃ (kq : Nat) (x27_3 : Bool), v27 = .bool x27_3 ∧ Aside0 (oriellaw02_EditThen.j0 kq a0 l1 l2 x27_3 = some r) ∧ Aside0 (kq ≤ k) ∧ Aside0 (Below w.heap.size w wc))
  case first =>
    have H := HC4.out
    clear HC4
    by_cases c5 : (a0.size : Int) > 1000
    · rw [if_pos c5] at H
      have c5b0 : decide (1000 < (a0.size : Int)) = true := decide_eq_true c5
      have c5b1 : decide (1000 < a0.size) = true := decide_eq_true (by omega)
      clear c5
      (first | rw [c5b0] | (simp only [i64_w, i32_w]; rw [c5b0]) | skip)
      have H' := Aside0.mk H
      clear H
      go_wp2
      go_meet
      case rel => exact ⟨_, (true), (by first | rfl | (simp; done) | (simp [*]; done)), H', ⟨by first | omega | exact Nat.le_refl _⟩, ⟨by repeat (first | (with_reducible first | exact HB.out | apply below_alloc | apply pw_below_drewN | apply below_drew1) | exact HB.out)⟩⟩
    · rw [if_neg c5] at H
      have c5b0 : decide (1000 < (a0.size : Int)) = false := decide_eq_false c5
      have c5b1 : decide (1000 < a0.size) = false := decide_eq_false (by omega)
      clear c5
      (first | rw [c5b0] | (simp only [i64_w, i32_w]; rw [c5b0]) | skip)
      replace H := Option.bind_eq_some_iff.mp H
      obtain ⟨t249, A60, H⟩ := H
      replace H : (if t249 = true then ((oriellaw02_few.f k l2).bind fun t250 => (oriellaw02_EditThen.j0 k a0 l1 l2 (!t250))) else (oriellaw02_EditThen.j0 k a0 l1 l2 true)) = some r := H
      have A6 := Aside0.mk A60
      clear A60
      by_cases c7 : t249 = true
      · subst c7
        have H1 : ((oriellaw02_few.f k l2).bind fun t250 => (oriellaw02_EditThen.j0 k a0 l1 l2 (!t250))) = some r := by rw [if_pos rfl] at H; exact H
        clear H
        have H := H1
        clear H1
        replace H := Option.bind_eq_some_iff.mp H
        obtain ⟨t250, A80, H⟩ := H
        replace H : (oriellaw02_EditThen.j0 k a0 l1 l2 (!t250)) = some r := H
        have A8 := Aside0.mk A80
        clear A80
        have H' := Aside0.mk H
        clear H
        go_wp2_with (first | (go_at_call 9; (with_reducible refine (oriellaw02_few.calls k _ _ l1 true _ ?side1 ?side2 A6.out).mono ?_); (case side1 => repeat (first | exact (Kd.C_below HR1.out HB.out) | (with_reducible refine Kd.C_alloc ?_ _) | (with_reducible refine Kd.C_drewN ?_ _) | (with_reducible refine Kd.C_drew ?_))); (case side2 => exact HC1.out); rintro e w9 ⟨rfl, hb⟩; have n0_ := Aside0.mk (below_step (by repeat (first | (with_reducible first | exact HB.out | apply below_alloc | apply pw_below_drewN | apply below_drew1) | exact HB.out)) hb); clear HB; have HB := n0_; clear n0_; (try clear hb); (try clear hb2); (try clear hk); (try clear hi)) | (go_at_call 9; (with_reducible refine (oriellaw02_few.calls k _ _ l2 t250 _ ?side1 ?side2 A8.out).mono ?_); (case side1 => repeat (first | exact (Kd.C_below HR2.out HB.out) | (with_reducible refine Kd.C_alloc ?_ _) | (with_reducible refine Kd.C_drewN ?_ _) | (with_reducible refine Kd.C_drew ?_))); (case side2 => exact HC2.out); rintro e w10 ⟨rfl, hb⟩; have n0_ := Aside0.mk (below_step (by repeat (first | (with_reducible first | exact HB.out | apply below_alloc | apply pw_below_drewN | apply below_drew1) | exact HB.out)) hb); clear HB; have HB := n0_; clear n0_; (try clear hb); (try clear hb2); (try clear hk); (try clear hi)))
        go_meet
        case rel => exact ⟨_, (!t250), (by first | rfl | (simp; done) | (simp [*]; done)), H', ⟨by first | omega | exact Nat.le_refl _⟩, ⟨by repeat (first | (with_reducible first | exact HB.out | apply below_alloc | apply pw_below_drewN | apply below_drew1) | exact HB.out)⟩⟩
      · replace c7 := Bool.eq_false_iff.mpr c7
        subst c7
        have H1 : (oriellaw02_EditThen.j0 k a0 l1 l2 true) = some r := by rw [if_neg (show ¬ (false = true) by decide)] at H; exact H
        clear H
        have H := H1
        clear H1
        have H' := Aside0.mk H
        clear H
        go_wp2_with (first | (go_at_call 9; (with_reducible refine (oriellaw02_few.calls k _ _ l1 false _ ?side1 ?side2 A6.out).mono ?_); (case side1 => repeat (first | exact (Kd.C_below HR1.out HB.out) | (with_reducible refine Kd.C_alloc ?_ _) | (with_reducible refine Kd.C_drewN ?_ _) | (with_reducible refine Kd.C_drew ?_))); (case side2 => exact HC1.out); rintro e w11 ⟨rfl, hb⟩; have n0_ := Aside0.mk (below_step (by repeat (first | (with_reducible first | exact HB.out | apply below_alloc | apply pw_below_drewN | apply below_drew1) | exact HB.out)) hb); clear HB; have HB := n0_; clear n0_; (try clear hb); (try clear hb2); (try clear hk); (try clear hi)))
        go_meet
        case rel => exact ⟨_, (true), (by first | rfl | (simp; done) | (simp [*]; done)), H', ⟨by first | omega | exact Nat.le_refl _⟩, ⟨by repeat (first | (with_reducible first | exact HB.out | apply below_alloc | apply pw_below_drewN | apply below_drew1) | exact HB.out)⟩⟩
  case rest =>
    clear HC4
    try clear c1
    try clear c2
    try clear p2
    try clear c5
    try clear c5b0
    try clear c5b1
    try clear c6
    try clear c7
    obtain ⟨kq, x27_3, rfl, HA, HJ3, HB⟩ := hcut
    cases kq with
    | zero => exact absurd HA.out (by simp [oriellaw02_EditThen.j0])
    | succ kj3 =>
      have H := HA.out
      clear HA
      simp only [oriellaw02_EditThen.j0] at H
      by_cases c12 : x27_3 = true
      · subst c12
        have H1 : ((oriellaw02_alive.f kj3).bind fun t251 => (some t251)) = some r := by rw [if_pos rfl] at H; exact H
        clear H
        have H := H1
        clear H1
        replace H := Option.bind_eq_some_iff.mp H
        obtain ⟨t251, A130, H⟩ := H
        replace H : (some t251) = some r := H
        have A13 := Aside0.mk A130
        clear A130
        obtain rfl := Option.some.inj H
        go_wp2_with (first | ((with_reducible refine gate_callee (f := 10) rfl ?_); refine goesL_ (some 28) rfl rfl Try.func10 (by kernel_rfl) rfl #[] rfl (by (try simp only [List.map_toArray, List.map_cons, List.map_nil]); first | done | rfl | (simp only [List.length_drop, List.length_take]; rfl)) ?_; (with_reducible refine (oriellaw02_alive.calls kj3  t251 _ A13.out).mono ?_); rintro e w14 ⟨rfl, hb⟩; refine ⟨_, rfl, ?_⟩; have n0_ := Aside0.mk (below_step (by repeat (first | (with_reducible first | exact HB.out | apply below_alloc | apply pw_below_drewN | apply below_drew1) | exact HB.out)) hb); clear HB; have HB := n0_; clear n0_; (try clear hb); (try clear hb2); (try clear hk); (try clear hi)))
        go_ret
        exact ⟨by first | rfl | (simp [errW_none, errW_some] <;> rfl) | (simp [*, errW_none, errW_some] <;> rfl), by repeat (first | (with_reducible first | exact HB.out | apply below_alloc | apply pw_below_drewN | apply below_drew1) | exact HB.out)⟩
      · replace c12 := Bool.eq_false_iff.mpr c12
        subst c12
        have H1 : ((edit_Apply.f kj3 a0 l1).bind fun bt252 => ((edit_Apply.f kj3 bt252.1 l2).bind fun bt254 => ((edit_Then.f kj3 a0 l1 l2).bind fun bt256 => ((oriellaw01_No.f bt252.2).bind fun t260 => (if t260 = 0 then ((oriellaw01_No.f bt254.2).bind fun t264 => (if t264 = 0 then ((edit_Apply.f kj3 a0 bt256.1).bind fun bt268 => ((oriellaw01_No.f bt256.2).bind fun t270 => ((oriellaw01_No.f bt268.2).bind fun t271 => (if (wrap64 (t270 + t271)) = 0 then (if bt268.1.toList = bt254.1.toList then (if (bt256.1.length : Int) ≤ 1 then (if (bt256.1.length : Int) > 0 then ((oriellaw02_alive.f kj3).bind fun t272 => (some t272)) else (if (wrap64 ((l1.length : Int) + (l2.length : Int))) = 0 then ((oriellaw02_alive.f kj3).bind fun t273 => (some t273)) else (none))) else (none)) else (none)) else (none))))) else ((oriellaw01_No.f bt256.2).bind fun t265 => ((oriellaw01_No.f bt254.2).bind fun t266 => (if t265 = t264 then (if (bt256.1.length : Int) = 0 then ((oriellaw02_alive.f kj3).bind fun t267 => (some t267)) else (none)) else (none)))))) else ((oriellaw01_No.f bt256.2).bind fun t261 => ((oriellaw01_No.f bt252.2).bind fun t262 => (if t261 = t260 then (if (bt256.1.length : Int) = 0 then ((oriellaw02_alive.f kj3).bind fun t263 => (some t263)) else (none)) else (none))))))))) = some r := by rw [if_neg (show ¬ (false = true) by decide)] at H; exact H
        clear H
        have H := H1
        clear H1
        replace H := Option.bind_eq_some_iff.mp H
        obtain ⟨⟨t252, t253⟩, A150, H⟩ := H
        replace H : ((edit_Apply.f kj3 t252 l2).bind fun bt254 => ((edit_Then.f kj3 a0 l1 l2).bind fun bt256 => ((oriellaw01_No.f t253).bind fun t260 => (if t260 = 0 then ((oriellaw01_No.f bt254.2).bind fun t264 => (if t264 = 0 then ((edit_Apply.f kj3 a0 bt256.1).bind fun bt268 => ((oriellaw01_No.f bt256.2).bind fun t270 => ((oriellaw01_No.f bt268.2).bind fun t271 => (if (wrap64 (t270 + t271)) = 0 then (if bt268.1.toList = bt254.1.toList then (if (bt256.1.length : Int) ≤ 1 then (if (bt256.1.length : Int) > 0 then ((oriellaw02_alive.f kj3).bind fun t272 => (some t272)) else (if (wrap64 ((l1.length : Int) + (l2.length : Int))) = 0 then ((oriellaw02_alive.f kj3).bind fun t273 => (some t273)) else (none))) else (none)) else (none)) else (none))))) else ((oriellaw01_No.f bt256.2).bind fun t265 => ((oriellaw01_No.f bt254.2).bind fun t266 => (if t265 = t264 then (if (bt256.1.length : Int) = 0 then ((oriellaw02_alive.f kj3).bind fun t267 => (some t267)) else (none)) else (none)))))) else ((oriellaw01_No.f bt256.2).bind fun t261 => ((oriellaw01_No.f t253).bind fun t262 => (if t261 = t260 then (if (bt256.1.length : Int) = 0 then ((oriellaw02_alive.f kj3).bind fun t263 => (some t263)) else (none)) else (none)))))))) = some r := H
        have A15 := Aside0.mk A150
        clear A150
        replace H := Option.bind_eq_some_iff.mp H
        obtain ⟨⟨t254, t255⟩, A160, H⟩ := H
        replace H : ((edit_Then.f kj3 a0 l1 l2).bind fun bt256 => ((oriellaw01_No.f t253).bind fun t260 => (if t260 = 0 then ((oriellaw01_No.f t255).bind fun t264 => (if t264 = 0 then ((edit_Apply.f kj3 a0 bt256.1).bind fun bt268 => ((oriellaw01_No.f bt256.2).bind fun t270 => ((oriellaw01_No.f bt268.2).bind fun t271 => (if (wrap64 (t270 + t271)) = 0 then (if bt268.1.toList = t254.toList then (if (bt256.1.length : Int) ≤ 1 then (if (bt256.1.length : Int) > 0 then ((oriellaw02_alive.f kj3).bind fun t272 => (some t272)) else (if (wrap64 ((l1.length : Int) + (l2.length : Int))) = 0 then ((oriellaw02_alive.f kj3).bind fun t273 => (some t273)) else (none))) else (none)) else (none)) else (none))))) else ((oriellaw01_No.f bt256.2).bind fun t265 => ((oriellaw01_No.f t255).bind fun t266 => (if t265 = t264 then (if (bt256.1.length : Int) = 0 then ((oriellaw02_alive.f kj3).bind fun t267 => (some t267)) else (none)) else (none)))))) else ((oriellaw01_No.f bt256.2).bind fun t261 => ((oriellaw01_No.f t253).bind fun t262 => (if t261 = t260 then (if (bt256.1.length : Int) = 0 then ((oriellaw02_alive.f kj3).bind fun t263 => (some t263)) else (none)) else (none))))))) = some r := H
        have A16 := Aside0.mk A160
        clear A160
        replace H := Option.bind_eq_some_iff.mp H
        obtain ⟨⟨t256, t257⟩, A170, H⟩ := H
        replace H : ((oriellaw01_No.f t253).bind fun t260 => (if t260 = 0 then ((oriellaw01_No.f t255).bind fun t264 => (if t264 = 0 then ((edit_Apply.f kj3 a0 t256).bind fun bt268 => ((oriellaw01_No.f t257).bind fun t270 => ((oriellaw01_No.f bt268.2).bind fun t271 => (if (wrap64 (t270 + t271)) = 0 then (if bt268.1.toList = t254.toList then (if (t256.length : Int) ≤ 1 then (if (t256.length : Int) > 0 then ((oriellaw02_alive.f kj3).bind fun t272 => (some t272)) else (if (wrap64 ((l1.length : Int) + (l2.length : Int))) = 0 then ((oriellaw02_alive.f kj3).bind fun t273 => (some t273)) else (none))) else (none)) else (none)) else (none))))) else ((oriellaw01_No.f t257).bind fun t265 => ((oriellaw01_No.f t255).bind fun t266 => (if t265 = t264 then (if (t256.length : Int) = 0 then ((oriellaw02_alive.f kj3).bind fun t267 => (some t267)) else (none)) else (none)))))) else ((oriellaw01_No.f t257).bind fun t261 => ((oriellaw01_No.f t253).bind fun t262 => (if t261 = t260 then (if (t256.length : Int) = 0 then ((oriellaw02_alive.f kj3).bind fun t263 => (some t263)) else (none)) else (none)))))) = some r := H
        have A17 := Aside0.mk A170
        clear A170
        replace H := Option.bind_eq_some_iff.mp H
        obtain ⟨t260, A180, H⟩ := H
        replace H : (if t260 = 0 then ((oriellaw01_No.f t255).bind fun t264 => (if t264 = 0 then ((edit_Apply.f kj3 a0 t256).bind fun bt268 => ((oriellaw01_No.f t257).bind fun t270 => ((oriellaw01_No.f bt268.2).bind fun t271 => (if (wrap64 (t270 + t271)) = 0 then (if bt268.1.toList = t254.toList then (if (t256.length : Int) ≤ 1 then (if (t256.length : Int) > 0 then ((oriellaw02_alive.f kj3).bind fun t272 => (some t272)) else (if (wrap64 ((l1.length : Int) + (l2.length : Int))) = 0 then ((oriellaw02_alive.f kj3).bind fun t273 => (some t273)) else (none))) else (none)) else (none)) else (none))))) else ((oriellaw01_No.f t257).bind fun t265 => ((oriellaw01_No.f t255).bind fun t266 => (if t265 = t264 then (if (t256.length : Int) = 0 then ((oriellaw02_alive.f kj3).bind fun t267 => (some t267)) else (none)) else (none)))))) else ((oriellaw01_No.f t257).bind fun t261 => ((oriellaw01_No.f t253).bind fun t262 => (if t261 = t260 then (if (t256.length : Int) = 0 then ((oriellaw02_alive.f kj3).bind fun t263 => (some t263)) else (none)) else (none))))) = some r := H
        have A18 := Aside0.mk A180
        clear A180
        by_cases c19 : t260 = 0
        · rw [if_pos c19] at H
          have c19b0 : (t260 == 0) = true := beq_iff_eq.mpr c19
          have c19b1 : (t260 != 0) = false := bne_eq_false_iff_eq.mpr c19
          clear c19
          replace H := Option.bind_eq_some_iff.mp H
          obtain ⟨t264, A200, H⟩ := H
          replace H : (if t264 = 0 then ((edit_Apply.f kj3 a0 t256).bind fun bt268 => ((oriellaw01_No.f t257).bind fun t270 => ((oriellaw01_No.f bt268.2).bind fun t271 => (if (wrap64 (t270 + t271)) = 0 then (if bt268.1.toList = t254.toList then (if (t256.length : Int) ≤ 1 then (if (t256.length : Int) > 0 then ((oriellaw02_alive.f kj3).bind fun t272 => (some t272)) else (if (wrap64 ((l1.length : Int) + (l2.length : Int))) = 0 then ((oriellaw02_alive.f kj3).bind fun t273 => (some t273)) else (none))) else (none)) else (none)) else (none))))) else ((oriellaw01_No.f t257).bind fun t265 => ((oriellaw01_No.f t255).bind fun t266 => (if t265 = t264 then (if (t256.length : Int) = 0 then ((oriellaw02_alive.f kj3).bind fun t267 => (some t267)) else (none)) else (none))))) = some r := H
          have A20 := Aside0.mk A200
          clear A200
          by_cases c21 : t264 = 0
          · rw [if_pos c21] at H
            have c21b0 : (t264 == 0) = true := beq_iff_eq.mpr c21
            have c21b1 : (t264 != 0) = false := bne_eq_false_iff_eq.mpr c21
            clear c21
            replace H := Option.bind_eq_some_iff.mp H
            obtain ⟨⟨t268, t269⟩, A220, H⟩ := H
            replace H : ((oriellaw01_No.f t257).bind fun t270 => ((oriellaw01_No.f t269).bind fun t271 => (if (wrap64 (t270 + t271)) = 0 then (if t268.toList = t254.toList then (if (t256.length : Int) ≤ 1 then (if (t256.length : Int) > 0 then ((oriellaw02_alive.f kj3).bind fun t272 => (some t272)) else (if (wrap64 ((l1.length : Int) + (l2.length : Int))) = 0 then ((oriellaw02_alive.f kj3).bind fun t273 => (some t273)) else (none))) else (none)) else (none)) else (none)))) = some r := H
            have A22 := Aside0.mk A220
            clear A220
            replace H := Option.bind_eq_some_iff.mp H
            obtain ⟨t270, A230, H⟩ := H
            replace H : ((oriellaw01_No.f t269).bind fun t271 => (if (wrap64 (t270 + t271)) = 0 then (if t268.toList = t254.toList then (if (t256.length : Int) ≤ 1 then (if (t256.length : Int) > 0 then ((oriellaw02_alive.f kj3).bind fun t272 => (some t272)) else (if (wrap64 ((l1.length : Int) + (l2.length : Int))) = 0 then ((oriellaw02_alive.f kj3).bind fun t273 => (some t273)) else (none))) else (none)) else (none)) else (none))) = some r := H
            have A23 := Aside0.mk A230
            clear A230
            replace H := Option.bind_eq_some_iff.mp H
            obtain ⟨t271, A240, H⟩ := H
            replace H : (if (wrap64 (t270 + t271)) = 0 then (if t268.toList = t254.toList then (if (t256.length : Int) ≤ 1 then (if (t256.length : Int) > 0 then ((oriellaw02_alive.f kj3).bind fun t272 => (some t272)) else (if (wrap64 ((l1.length : Int) + (l2.length : Int))) = 0 then ((oriellaw02_alive.f kj3).bind fun t273 => (some t273)) else (none))) else (none)) else (none)) else (none)) = some r := H
            have A24 := Aside0.mk A240
            clear A240
            by_cases c25 : (wrap64 (t270 + t271)) = 0
            · rw [if_pos c25] at H
              have c25b0 : ((wrap64 (t270 + t271)) == 0) = true := beq_iff_eq.mpr c25
              have c25b1 : ((wrap64 (t270 + t271)) != 0) = false := bne_eq_false_iff_eq.mpr c25
              clear c25
              by_cases c26 : t268.toList = t254.toList
              · rw [if_pos c26] at H
                have c26b0 : (t268.toList == t254.toList) = true := beq_iff_eq.mpr c26
                have c26b1 : (t268.toList != t254.toList) = false := bne_eq_false_iff_eq.mpr c26
                clear c26
                by_cases c27 : (t256.length : Int) ≤ 1
                · rw [if_pos c27] at H
                  have c27b0 : decide ((t256.length : Int) ≤ 1) = true := decide_eq_true c27
                  have c27b1 : decide (t256.length ≤ 1) = true := decide_eq_true (by omega)
                  clear c27
                  by_cases c28 : (t256.length : Int) > 0
                  · rw [if_pos c28] at H
                    have c28b0 : decide (0 < (t256.length : Int)) = true := decide_eq_true c28
                    have c28b1 : decide (0 < t256.length) = true := decide_eq_true (by omega)
                    clear c28
                    replace H := Option.bind_eq_some_iff.mp H
                    obtain ⟨t272, A290, H⟩ := H
                    replace H : (some t272) = some r := H
                    have A29 := Aside0.mk A290
                    clear A290
                    obtain rfl := Option.some.inj H
                    go_wp2_with (first | ((with_reducible refine gate_callee (f := 18) rfl ?_); refine goesL_ (some 32) rfl rfl Try.func18 (by kernel_rfl) rfl #[.string a0, .slice A1 l1.length c1] rfl (by (try simp only [List.map_toArray, List.map_cons, List.map_nil]); first | done | rfl | (simp only [List.length_drop, List.length_take]; rfl)) ?_; (with_reducible refine (edit_Apply.calls kj3 a0 _ _ l1 t252 t253 _ ?side1 ?side2 A15.out).mono ?_); (case side1 => repeat (first | exact (Kd.C_below HR1.out HB.out) | (with_reducible refine Kd.C_alloc ?_ _) | (with_reducible refine Kd.C_drewN ?_ _) | (with_reducible refine Kd.C_drew ?_))); (case side2 => exact HC1.out); rintro e w30 ⟨rfl, hb⟩; refine ⟨_, rfl, ?_⟩; have n0_ := Aside0.mk (below_step (by repeat (first | (with_reducible first | exact HB.out | apply below_alloc | apply pw_below_drewN | apply below_drew1) | exact HB.out)) hb); clear HB; have HB := n0_; clear n0_; (try clear hb); (try clear hb2); (try clear hk); (try clear hi)) | ((with_reducible refine gate_callee (f := 18) rfl ?_); refine goesL_ (some 38) rfl rfl Try.func18 (by kernel_rfl) rfl #[.string t252, .slice A2 l2.length c2] rfl (by (try simp only [List.map_toArray, List.map_cons, List.map_nil]); first | done | rfl | (simp only [List.length_drop, List.length_take]; rfl)) ?_; (with_reducible refine (edit_Apply.calls kj3 t252 _ _ l2 t254 t255 _ ?side1 ?side2 A16.out).mono ?_); (case side1 => repeat (first | exact (Kd.C_below HR2.out HB.out) | (with_reducible refine Kd.C_alloc ?_ _) | (with_reducible refine Kd.C_drewN ?_ _) | (with_reducible refine Kd.C_drew ?_))); (case side2 => exact HC2.out); rintro e w31 ⟨rfl, hb⟩; refine ⟨_, rfl, ?_⟩; have n0_ := Aside0.mk (below_step (by repeat (first | (with_reducible first | exact HB.out | apply below_alloc | apply pw_below_drewN | apply below_drew1) | exact HB.out)) hb); clear HB; have HB := n0_; clear n0_; (try clear hb); (try clear hb2); (try clear hk); (try clear hi)) | ((with_reducible refine gate_callee (f := 20) rfl ?_); refine goesL_ (some 45) rfl rfl Try.func20 (by kernel_rfl) rfl #[.string a0, .slice A1 l1.length c1, .slice A2 l2.length c2] rfl (by (try simp only [List.map_toArray, List.map_cons, List.map_nil]); first | done | rfl | (simp only [List.length_drop, List.length_take]; rfl)) ?_; (with_reducible refine (edit_Then.calls kj3 a0 _ _ l1 _ _ l2 t256 t257 _ ?side1 ?side2 ?side3 ?side4 A17.out).mono ?_); (case side1 => repeat (first | exact (Kd.C_below HR1.out HB.out) | (with_reducible refine Kd.C_alloc ?_ _) | (with_reducible refine Kd.C_drewN ?_ _) | (with_reducible refine Kd.C_drew ?_))); (case side2 => exact HC1.out); (case side3 => repeat (first | exact (Kd.C_below HR2.out HB.out) | (with_reducible refine Kd.C_alloc ?_ _) | (with_reducible refine Kd.C_drewN ?_ _) | (with_reducible refine Kd.C_drew ?_))); (case side4 => exact HC2.out); rintro e w32 ⟨v258, rfl, ho0, hb⟩; refine ⟨_, rfl, ?_⟩; have n0_ := Aside0.mk (Kd.R_lower ho0 (below_size (by repeat (first | (with_reducible first | exact HB.out | apply below_alloc | apply pw_below_drewN | apply below_drew1) | exact HB.out)))); have n1_ := Aside0.mk (below_step (by repeat (first | (with_reducible first | exact HB.out | apply below_alloc | apply pw_below_drewN | apply below_drew1) | exact HB.out)) hb); clear HB; have HO259 := n0_; have HB := n1_; clear n0_ n1_; (try clear hb); (try clear hb2); (try clear hk); (try clear hi); (try clear ho0)) | ((with_reducible refine gate_callee (f := 17) rfl ?_); refine goesL_ (some 49) rfl rfl Try.func17 (by kernel_rfl) rfl #[.int .i64 t253] rfl (by (try simp only [List.map_toArray, List.map_cons, List.map_nil]); first | done | rfl | (simp only [List.length_drop, List.length_take]; rfl)) ?_; (with_reducible refine (oriellaw01_No.calls t253 t260 _ A18.out).mono ?_); rintro e w' ⟨rfl, ⟨nd, rfl⟩⟩; refine ⟨_, rfl, ?_⟩) | ((with_reducible refine gate_callee (f := 17) rfl ?_); refine goesL_ (some 65) rfl rfl Try.func17 (by kernel_rfl) rfl #[.int .i64 t255] rfl (by (try simp only [List.map_toArray, List.map_cons, List.map_nil]); first | done | rfl | (simp only [List.length_drop, List.length_take]; rfl)) ?_; (with_reducible refine (oriellaw01_No.calls t255 t264 _ A20.out).mono ?_); rintro e w' ⟨rfl, ⟨nd, rfl⟩⟩; refine ⟨_, rfl, ?_⟩; obtain ⟨Ao33, co33, eo33⟩ := Kd.R_slice HO259.out; subst eo33) | ((with_reducible refine gate_callee (f := 18) rfl ?_); refine goesL_ (some 83) rfl rfl Try.func18 (by kernel_rfl) rfl #[.string a0, .slice Ao33 t256.length co33] rfl (by (try simp only [List.map_toArray, List.map_cons, List.map_nil]); first | done | rfl | (simp only [List.length_drop, List.length_take]; rfl)) ?_; (with_reducible refine (edit_Apply.calls kj3 a0 _ _ t256 t268 t269 _ ?side1 ?side2 A22.out).mono ?_); (case side1 => repeat (first | exact (Kd.R_reads' HO259.out).2.2 | (with_reducible refine Kd.C_alloc ?_ _) | (with_reducible refine Kd.C_drewN ?_ _) | (with_reducible refine Kd.C_drew ?_))); (case side2 => exact (Kd.R_reads' HO259.out).2.1); rintro e w34 ⟨rfl, hb⟩; refine ⟨_, rfl, ?_⟩; have n0_ := Aside0.mk (Kd.R_below (by (with_reducible repeat (first | apply Kd.R_alloc | apply Kd.R_drewN | apply Kd.R_drew)); exact HO259.out) hb); have n1_ := Aside0.mk (below_step (by repeat (first | (with_reducible first | exact HB.out | apply below_alloc | apply pw_below_drewN | apply below_drew1) | exact HB.out)) hb); clear HO259; clear HB; have HO259 := n0_; have HB := n1_; clear n0_ n1_; (try clear hb); (try clear hb2); (try clear hk); (try clear hi)) | ((with_reducible refine gate_callee (f := 17) rfl ?_); refine goesL_ (some 87) rfl rfl Try.func17 (by kernel_rfl) rfl #[.int .i64 t257] rfl (by (try simp only [List.map_toArray, List.map_cons, List.map_nil]); first | done | rfl | (simp only [List.length_drop, List.length_take]; rfl)) ?_; (with_reducible refine (oriellaw01_No.calls t257 t270 _ A23.out).mono ?_); rintro e w' ⟨rfl, ⟨nd, rfl⟩⟩; refine ⟨_, rfl, ?_⟩) | ((with_reducible refine gate_callee (f := 17) rfl ?_); refine goesL_ (some 89) rfl rfl Try.func17 (by kernel_rfl) rfl #[.int .i64 t269] rfl (by (try simp only [List.map_toArray, List.map_cons, List.map_nil]); first | done | rfl | (simp only [List.length_drop, List.length_take]; rfl)) ?_; (with_reducible refine (oriellaw01_No.calls t269 t271 _ A24.out).mono ?_); rintro e w' ⟨rfl, ⟨nd, rfl⟩⟩; refine ⟨_, rfl, ?_⟩) | (go_at_call 10; (with_reducible refine (oriellaw02_alive.calls kj3  t272 _ A29.out).mono ?_); rintro e w35 ⟨rfl, hb⟩; have n0_ := Aside0.mk (Kd.R_below (by (with_reducible repeat (first | apply Kd.R_alloc | apply Kd.R_drewN | apply Kd.R_drew)); exact HO259.out) hb); have n1_ := Aside0.mk (below_step (by repeat (first | (with_reducible first | exact HB.out | apply below_alloc | apply pw_below_drewN | apply below_drew1) | exact HB.out)) hb); clear HO259; clear HB; have HO259 := n0_; have HB := n1_; clear n0_ n1_; (try clear hb); (try clear hb2); (try clear hk); (try clear hi)))
                    go_ret
                    exact ⟨by first | rfl | (simp [errW_none, errW_some] <;> rfl) | (simp [*, errW_none, errW_some] <;> rfl), by repeat (first | (with_reducible first | exact HB.out | apply below_alloc | apply pw_below_drewN | apply below_drew1) | exact HB.out)⟩
                  · rw [if_neg c28] at H
                    have c28b0 : decide (0 < (t256.length : Int)) = false := decide_eq_false c28
                    have c28b1 : decide (0 < t256.length) = false := decide_eq_false (by omega)
                    clear c28
                    by_cases c36 : (wrap64 ((l1.length : Int) + (l2.length : Int))) = 0
                    · rw [if_pos c36] at H
                      have c36b0 : ((wrap64 ((l1.length : Int) + (l2.length : Int))) == 0) = true := beq_iff_eq.mpr c36
                      have c36b1 : ((wrap64 ((l1.length : Int) + (l2.length : Int))) != 0) = false := bne_eq_false_iff_eq.mpr c36
                      clear c36
                      replace H := Option.bind_eq_some_iff.mp H
                      obtain ⟨t273, A370, H⟩ := H
                      replace H : (some t273) = some r := H
                      have A37 := Aside0.mk A370
                      clear A370
                      obtain rfl := Option.some.inj H
                      go_wp2_with (first | ((with_reducible refine gate_callee (f := 18) rfl ?_); refine goesL_ (some 32) rfl rfl Try.func18 (by kernel_rfl) rfl #[.string a0, .slice A1 l1.length c1] rfl (by (try simp only [List.map_toArray, List.map_cons, List.map_nil]); first | done | rfl | (simp only [List.length_drop, List.length_take]; rfl)) ?_; (with_reducible refine (edit_Apply.calls kj3 a0 _ _ l1 t252 t253 _ ?side1 ?side2 A15.out).mono ?_); (case side1 => repeat (first | exact (Kd.C_below HR1.out HB.out) | (with_reducible refine Kd.C_alloc ?_ _) | (with_reducible refine Kd.C_drewN ?_ _) | (with_reducible refine Kd.C_drew ?_))); (case side2 => exact HC1.out); rintro e w38 ⟨rfl, hb⟩; refine ⟨_, rfl, ?_⟩; have n0_ := Aside0.mk (below_step (by repeat (first | (with_reducible first | exact HB.out | apply below_alloc | apply pw_below_drewN | apply below_drew1) | exact HB.out)) hb); clear HB; have HB := n0_; clear n0_; (try clear hb); (try clear hb2); (try clear hk); (try clear hi)) | ((with_reducible refine gate_callee (f := 18) rfl ?_); refine goesL_ (some 38) rfl rfl Try.func18 (by kernel_rfl) rfl #[.string t252, .slice A2 l2.length c2] rfl (by (try simp only [List.map_toArray, List.map_cons, List.map_nil]); first | done | rfl | (simp only [List.length_drop, List.length_take]; rfl)) ?_; (with_reducible refine (edit_Apply.calls kj3 t252 _ _ l2 t254 t255 _ ?side1 ?side2 A16.out).mono ?_); (case side1 => repeat (first | exact (Kd.C_below HR2.out HB.out) | (with_reducible refine Kd.C_alloc ?_ _) | (with_reducible refine Kd.C_drewN ?_ _) | (with_reducible refine Kd.C_drew ?_))); (case side2 => exact HC2.out); rintro e w39 ⟨rfl, hb⟩; refine ⟨_, rfl, ?_⟩; have n0_ := Aside0.mk (below_step (by repeat (first | (with_reducible first | exact HB.out | apply below_alloc | apply pw_below_drewN | apply below_drew1) | exact HB.out)) hb); clear HB; have HB := n0_; clear n0_; (try clear hb); (try clear hb2); (try clear hk); (try clear hi)) | ((with_reducible refine gate_callee (f := 20) rfl ?_); refine goesL_ (some 45) rfl rfl Try.func20 (by kernel_rfl) rfl #[.string a0, .slice A1 l1.length c1, .slice A2 l2.length c2] rfl (by (try simp only [List.map_toArray, List.map_cons, List.map_nil]); first | done | rfl | (simp only [List.length_drop, List.length_take]; rfl)) ?_; (with_reducible refine (edit_Then.calls kj3 a0 _ _ l1 _ _ l2 t256 t257 _ ?side1 ?side2 ?side3 ?side4 A17.out).mono ?_); (case side1 => repeat (first | exact (Kd.C_below HR1.out HB.out) | (with_reducible refine Kd.C_alloc ?_ _) | (with_reducible refine Kd.C_drewN ?_ _) | (with_reducible refine Kd.C_drew ?_))); (case side2 => exact HC1.out); (case side3 => repeat (first | exact (Kd.C_below HR2.out HB.out) | (with_reducible refine Kd.C_alloc ?_ _) | (with_reducible refine Kd.C_drewN ?_ _) | (with_reducible refine Kd.C_drew ?_))); (case side4 => exact HC2.out); rintro e w40 ⟨v258, rfl, ho0, hb⟩; refine ⟨_, rfl, ?_⟩; have n0_ := Aside0.mk (Kd.R_lower ho0 (below_size (by repeat (first | (with_reducible first | exact HB.out | apply below_alloc | apply pw_below_drewN | apply below_drew1) | exact HB.out)))); have n1_ := Aside0.mk (below_step (by repeat (first | (with_reducible first | exact HB.out | apply below_alloc | apply pw_below_drewN | apply below_drew1) | exact HB.out)) hb); clear HB; have HO259 := n0_; have HB := n1_; clear n0_ n1_; (try clear hb); (try clear hb2); (try clear hk); (try clear hi); (try clear ho0)) | ((with_reducible refine gate_callee (f := 17) rfl ?_); refine goesL_ (some 49) rfl rfl Try.func17 (by kernel_rfl) rfl #[.int .i64 t253] rfl (by (try simp only [List.map_toArray, List.map_cons, List.map_nil]); first | done | rfl | (simp only [List.length_drop, List.length_take]; rfl)) ?_; (with_reducible refine (oriellaw01_No.calls t253 t260 _ A18.out).mono ?_); rintro e w' ⟨rfl, ⟨nd, rfl⟩⟩; refine ⟨_, rfl, ?_⟩) | ((with_reducible refine gate_callee (f := 17) rfl ?_); refine goesL_ (some 65) rfl rfl Try.func17 (by kernel_rfl) rfl #[.int .i64 t255] rfl (by (try simp only [List.map_toArray, List.map_cons, List.map_nil]); first | done | rfl | (simp only [List.length_drop, List.length_take]; rfl)) ?_; (with_reducible refine (oriellaw01_No.calls t255 t264 _ A20.out).mono ?_); rintro e w' ⟨rfl, ⟨nd, rfl⟩⟩; refine ⟨_, rfl, ?_⟩; obtain ⟨Ao41, co41, eo41⟩ := Kd.R_slice HO259.out; subst eo41) | ((with_reducible refine gate_callee (f := 18) rfl ?_); refine goesL_ (some 83) rfl rfl Try.func18 (by kernel_rfl) rfl #[.string a0, .slice Ao41 t256.length co41] rfl (by (try simp only [List.map_toArray, List.map_cons, List.map_nil]); first | done | rfl | (simp only [List.length_drop, List.length_take]; rfl)) ?_; (with_reducible refine (edit_Apply.calls kj3 a0 _ _ t256 t268 t269 _ ?side1 ?side2 A22.out).mono ?_); (case side1 => repeat (first | exact (Kd.R_reads' HO259.out).2.2 | (with_reducible refine Kd.C_alloc ?_ _) | (with_reducible refine Kd.C_drewN ?_ _) | (with_reducible refine Kd.C_drew ?_))); (case side2 => exact (Kd.R_reads' HO259.out).2.1); rintro e w42 ⟨rfl, hb⟩; refine ⟨_, rfl, ?_⟩; have n0_ := Aside0.mk (Kd.R_below (by (with_reducible repeat (first | apply Kd.R_alloc | apply Kd.R_drewN | apply Kd.R_drew)); exact HO259.out) hb); have n1_ := Aside0.mk (below_step (by repeat (first | (with_reducible first | exact HB.out | apply below_alloc | apply pw_below_drewN | apply below_drew1) | exact HB.out)) hb); clear HO259; clear HB; have HO259 := n0_; have HB := n1_; clear n0_ n1_; (try clear hb); (try clear hb2); (try clear hk); (try clear hi)) | ((with_reducible refine gate_callee (f := 17) rfl ?_); refine goesL_ (some 87) rfl rfl Try.func17 (by kernel_rfl) rfl #[.int .i64 t257] rfl (by (try simp only [List.map_toArray, List.map_cons, List.map_nil]); first | done | rfl | (simp only [List.length_drop, List.length_take]; rfl)) ?_; (with_reducible refine (oriellaw01_No.calls t257 t270 _ A23.out).mono ?_); rintro e w' ⟨rfl, ⟨nd, rfl⟩⟩; refine ⟨_, rfl, ?_⟩) | ((with_reducible refine gate_callee (f := 17) rfl ?_); refine goesL_ (some 89) rfl rfl Try.func17 (by kernel_rfl) rfl #[.int .i64 t269] rfl (by (try simp only [List.map_toArray, List.map_cons, List.map_nil]); first | done | rfl | (simp only [List.length_drop, List.length_take]; rfl)) ?_; (with_reducible refine (oriellaw01_No.calls t269 t271 _ A24.out).mono ?_); rintro e w' ⟨rfl, ⟨nd, rfl⟩⟩; refine ⟨_, rfl, ?_⟩) | (go_at_call 10; (with_reducible refine (oriellaw02_alive.calls kj3  t273 _ A37.out).mono ?_); rintro e w43 ⟨rfl, hb⟩; have n0_ := Aside0.mk (Kd.R_below (by (with_reducible repeat (first | apply Kd.R_alloc | apply Kd.R_drewN | apply Kd.R_drew)); exact HO259.out) hb); have n1_ := Aside0.mk (below_step (by repeat (first | (with_reducible first | exact HB.out | apply below_alloc | apply pw_below_drewN | apply below_drew1) | exact HB.out)) hb); clear HO259; clear HB; have HO259 := n0_; have HB := n1_; clear n0_ n1_; (try clear hb); (try clear hb2); (try clear hk); (try clear hi)))
                      go_ret
                      exact ⟨by first | rfl | (simp [errW_none, errW_some] <;> rfl) | (simp [*, errW_none, errW_some] <;> rfl), by repeat (first | (with_reducible first | exact HB.out | apply below_alloc | apply pw_below_drewN | apply below_drew1) | exact HB.out)⟩
                    · rw [if_neg c36] at H
                      exact absurd H (by simp)
                · rw [if_neg c27] at H
                  exact absurd H (by simp)
              · rw [if_neg c26] at H
                exact absurd H (by simp)
            · rw [if_neg c25] at H
              exact absurd H (by simp)
          · rw [if_neg c21] at H
            have c21b0 : (t264 == 0) = false := beq_eq_false_iff_ne.mpr c21
            have c21b1 : (t264 != 0) = true := bne_iff_ne.mpr c21
            replace H := Option.bind_eq_some_iff.mp H
            obtain ⟨t265, A440, H⟩ := H
            replace H : ((oriellaw01_No.f t255).bind fun t266 => (if t265 = t264 then (if (t256.length : Int) = 0 then ((oriellaw02_alive.f kj3).bind fun t267 => (some t267)) else (none)) else (none))) = some r := H
            have A44 := Aside0.mk A440
            clear A440
            replace H := Option.bind_eq_some_iff.mp H
            obtain ⟨t266, A450, H⟩ := H
            replace H : (if t265 = t264 then (if (t256.length : Int) = 0 then ((oriellaw02_alive.f kj3).bind fun t267 => (some t267)) else (none)) else (none)) = some r := H
            clear A450
            by_cases c46 : t265 = t264
            · rw [if_pos c46] at H
              have c46b0 : (t265 == t264) = true := beq_iff_eq.mpr c46
              have c46b1 : (t265 != t264) = false := bne_eq_false_iff_eq.mpr c46
              clear c46
              by_cases c47 : (t256.length : Int) = 0
              · rw [if_pos c47] at H
                have c47b0 : ((t256.length : Int) == 0) = true := beq_iff_eq.mpr c47
                have c47b1 : ((t256.length : Int) != 0) = false := bne_eq_false_iff_eq.mpr c47
                clear c47
                replace H := Option.bind_eq_some_iff.mp H
                obtain ⟨t267, A480, H⟩ := H
                replace H : (some t267) = some r := H
                have A48 := Aside0.mk A480
                clear A480
                obtain rfl := Option.some.inj H
                go_wp2_with (first | ((with_reducible refine gate_callee (f := 18) rfl ?_); refine goesL_ (some 32) rfl rfl Try.func18 (by kernel_rfl) rfl #[.string a0, .slice A1 l1.length c1] rfl (by (try simp only [List.map_toArray, List.map_cons, List.map_nil]); first | done | rfl | (simp only [List.length_drop, List.length_take]; rfl)) ?_; (with_reducible refine (edit_Apply.calls kj3 a0 _ _ l1 t252 t253 _ ?side1 ?side2 A15.out).mono ?_); (case side1 => repeat (first | exact (Kd.C_below HR1.out HB.out) | (with_reducible refine Kd.C_alloc ?_ _) | (with_reducible refine Kd.C_drewN ?_ _) | (with_reducible refine Kd.C_drew ?_))); (case side2 => exact HC1.out); rintro e w49 ⟨rfl, hb⟩; refine ⟨_, rfl, ?_⟩; have n0_ := Aside0.mk (below_step (by repeat (first | (with_reducible first | exact HB.out | apply below_alloc | apply pw_below_drewN | apply below_drew1) | exact HB.out)) hb); clear HB; have HB := n0_; clear n0_; (try clear hb); (try clear hb2); (try clear hk); (try clear hi)) | ((with_reducible refine gate_callee (f := 18) rfl ?_); refine goesL_ (some 38) rfl rfl Try.func18 (by kernel_rfl) rfl #[.string t252, .slice A2 l2.length c2] rfl (by (try simp only [List.map_toArray, List.map_cons, List.map_nil]); first | done | rfl | (simp only [List.length_drop, List.length_take]; rfl)) ?_; (with_reducible refine (edit_Apply.calls kj3 t252 _ _ l2 t254 t255 _ ?side1 ?side2 A16.out).mono ?_); (case side1 => repeat (first | exact (Kd.C_below HR2.out HB.out) | (with_reducible refine Kd.C_alloc ?_ _) | (with_reducible refine Kd.C_drewN ?_ _) | (with_reducible refine Kd.C_drew ?_))); (case side2 => exact HC2.out); rintro e w50 ⟨rfl, hb⟩; refine ⟨_, rfl, ?_⟩; have n0_ := Aside0.mk (below_step (by repeat (first | (with_reducible first | exact HB.out | apply below_alloc | apply pw_below_drewN | apply below_drew1) | exact HB.out)) hb); clear HB; have HB := n0_; clear n0_; (try clear hb); (try clear hb2); (try clear hk); (try clear hi)) | ((with_reducible refine gate_callee (f := 20) rfl ?_); refine goesL_ (some 45) rfl rfl Try.func20 (by kernel_rfl) rfl #[.string a0, .slice A1 l1.length c1, .slice A2 l2.length c2] rfl (by (try simp only [List.map_toArray, List.map_cons, List.map_nil]); first | done | rfl | (simp only [List.length_drop, List.length_take]; rfl)) ?_; (with_reducible refine (edit_Then.calls kj3 a0 _ _ l1 _ _ l2 t256 t257 _ ?side1 ?side2 ?side3 ?side4 A17.out).mono ?_); (case side1 => repeat (first | exact (Kd.C_below HR1.out HB.out) | (with_reducible refine Kd.C_alloc ?_ _) | (with_reducible refine Kd.C_drewN ?_ _) | (with_reducible refine Kd.C_drew ?_))); (case side2 => exact HC1.out); (case side3 => repeat (first | exact (Kd.C_below HR2.out HB.out) | (with_reducible refine Kd.C_alloc ?_ _) | (with_reducible refine Kd.C_drewN ?_ _) | (with_reducible refine Kd.C_drew ?_))); (case side4 => exact HC2.out); rintro e w51 ⟨v258, rfl, ho0, hb⟩; refine ⟨_, rfl, ?_⟩; have n0_ := Aside0.mk (Kd.R_lower ho0 (below_size (by repeat (first | (with_reducible first | exact HB.out | apply below_alloc | apply pw_below_drewN | apply below_drew1) | exact HB.out)))); have n1_ := Aside0.mk (below_step (by repeat (first | (with_reducible first | exact HB.out | apply below_alloc | apply pw_below_drewN | apply below_drew1) | exact HB.out)) hb); clear HB; have HO259 := n0_; have HB := n1_; clear n0_ n1_; (try clear hb); (try clear hb2); (try clear hk); (try clear hi); (try clear ho0)) | ((with_reducible refine gate_callee (f := 17) rfl ?_); refine goesL_ (some 49) rfl rfl Try.func17 (by kernel_rfl) rfl #[.int .i64 t253] rfl (by (try simp only [List.map_toArray, List.map_cons, List.map_nil]); first | done | rfl | (simp only [List.length_drop, List.length_take]; rfl)) ?_; (with_reducible refine (oriellaw01_No.calls t253 t260 _ A18.out).mono ?_); rintro e w' ⟨rfl, ⟨nd, rfl⟩⟩; refine ⟨_, rfl, ?_⟩) | ((with_reducible refine gate_callee (f := 17) rfl ?_); refine goesL_ (some 65) rfl rfl Try.func17 (by kernel_rfl) rfl #[.int .i64 t255] rfl (by (try simp only [List.map_toArray, List.map_cons, List.map_nil]); first | done | rfl | (simp only [List.length_drop, List.length_take]; rfl)) ?_; (with_reducible refine (oriellaw01_No.calls t255 t264 _ A20.out).mono ?_); rintro e w' ⟨rfl, ⟨nd, rfl⟩⟩; refine ⟨_, rfl, ?_⟩) | ((with_reducible refine gate_callee (f := 17) rfl ?_); refine goesL_ (some 68) rfl rfl Try.func17 (by kernel_rfl) rfl #[.int .i64 t257] rfl (by (try simp only [List.map_toArray, List.map_cons, List.map_nil]); first | done | rfl | (simp only [List.length_drop, List.length_take]; rfl)) ?_; (with_reducible refine (oriellaw01_No.calls t257 t265 _ A44.out).mono ?_); rintro e w' ⟨rfl, ⟨nd, rfl⟩⟩; refine ⟨_, rfl, ?_⟩) | ((with_reducible refine gate_callee (f := 17) rfl ?_); refine goesL_ (some 70) rfl rfl Try.func17 (by kernel_rfl) rfl #[.int .i64 t255] rfl (by (try simp only [List.map_toArray, List.map_cons, List.map_nil]); first | done | rfl | (simp only [List.length_drop, List.length_take]; rfl)) ?_; (with_reducible refine (oriellaw01_No.calls t255 t264 _ A20.out).mono ?_); rintro e w' ⟨rfl, ⟨nd, rfl⟩⟩; refine ⟨_, rfl, ?_⟩; obtain ⟨Ao52, co52, eo52⟩ := Kd.R_slice HO259.out; subst eo52) | (go_at_call 10; (with_reducible refine (oriellaw02_alive.calls kj3  t267 _ A48.out).mono ?_); rintro e w53 ⟨rfl, hb⟩; have n0_ := Aside0.mk (Kd.R_below (by (with_reducible repeat (first | apply Kd.R_alloc | apply Kd.R_drewN | apply Kd.R_drew)); exact HO259.out) hb); have n1_ := Aside0.mk (below_step (by repeat (first | (with_reducible first | exact HB.out | apply below_alloc | apply pw_below_drewN | apply below_drew1) | exact HB.out)) hb); clear HO259; clear HB; have HO259 := n0_; have HB := n1_; clear n0_ n1_; (try clear hb); (try clear hb2); (try clear hk); (try clear hi)))
                go_ret
                exact ⟨by first | rfl | (simp [errW_none, errW_some] <;> rfl) | (simp [*, errW_none, errW_some] <;> rfl), by repeat (first | (with_reducible first | exact HB.out | apply below_alloc | apply pw_below_drewN | apply below_drew1) | exact HB.out)⟩
              · rw [if_neg c47] at H
                exact absurd H (by simp)
            · rw [if_neg c46] at H
              exact absurd H (by simp)
        · rw [if_neg c19] at H
          have c19b0 : (t260 == 0) = false := beq_eq_false_iff_ne.mpr c19
          have c19b1 : (t260 != 0) = true := bne_iff_ne.mpr c19
          replace H := Option.bind_eq_some_iff.mp H
          obtain ⟨t261, A540, H⟩ := H
          replace H : ((oriellaw01_No.f t253).bind fun t262 => (if t261 = t260 then (if (t256.length : Int) = 0 then ((oriellaw02_alive.f kj3).bind fun t263 => (some t263)) else (none)) else (none))) = some r := H
          have A54 := Aside0.mk A540
          clear A540
          replace H := Option.bind_eq_some_iff.mp H
          obtain ⟨t262, A550, H⟩ := H
          replace H : (if t261 = t260 then (if (t256.length : Int) = 0 then ((oriellaw02_alive.f kj3).bind fun t263 => (some t263)) else (none)) else (none)) = some r := H
          clear A550
          by_cases c56 : t261 = t260
          · rw [if_pos c56] at H
            have c56b0 : (t261 == t260) = true := beq_iff_eq.mpr c56
            have c56b1 : (t261 != t260) = false := bne_eq_false_iff_eq.mpr c56
            clear c56
            by_cases c57 : (t256.length : Int) = 0
            · rw [if_pos c57] at H
              have c57b0 : ((t256.length : Int) == 0) = true := beq_iff_eq.mpr c57
              have c57b1 : ((t256.length : Int) != 0) = false := bne_eq_false_iff_eq.mpr c57
              clear c57
              replace H := Option.bind_eq_some_iff.mp H
              obtain ⟨t263, A580, H⟩ := H
              replace H : (some t263) = some r := H
              have A58 := Aside0.mk A580
              clear A580
              obtain rfl := Option.some.inj H
              go_wp2_with (first | ((with_reducible refine gate_callee (f := 18) rfl ?_); refine goesL_ (some 32) rfl rfl Try.func18 (by kernel_rfl) rfl #[.string a0, .slice A1 l1.length c1] rfl (by (try simp only [List.map_toArray, List.map_cons, List.map_nil]); first | done | rfl | (simp only [List.length_drop, List.length_take]; rfl)) ?_; (with_reducible refine (edit_Apply.calls kj3 a0 _ _ l1 t252 t253 _ ?side1 ?side2 A15.out).mono ?_); (case side1 => repeat (first | exact (Kd.C_below HR1.out HB.out) | (with_reducible refine Kd.C_alloc ?_ _) | (with_reducible refine Kd.C_drewN ?_ _) | (with_reducible refine Kd.C_drew ?_))); (case side2 => exact HC1.out); rintro e w59 ⟨rfl, hb⟩; refine ⟨_, rfl, ?_⟩; have n0_ := Aside0.mk (below_step (by repeat (first | (with_reducible first | exact HB.out | apply below_alloc | apply pw_below_drewN | apply below_drew1) | exact HB.out)) hb); clear HB; have HB := n0_; clear n0_; (try clear hb); (try clear hb2); (try clear hk); (try clear hi)) | ((with_reducible refine gate_callee (f := 18) rfl ?_); refine goesL_ (some 38) rfl rfl Try.func18 (by kernel_rfl) rfl #[.string t252, .slice A2 l2.length c2] rfl (by (try simp only [List.map_toArray, List.map_cons, List.map_nil]); first | done | rfl | (simp only [List.length_drop, List.length_take]; rfl)) ?_; (with_reducible refine (edit_Apply.calls kj3 t252 _ _ l2 t254 t255 _ ?side1 ?side2 A16.out).mono ?_); (case side1 => repeat (first | exact (Kd.C_below HR2.out HB.out) | (with_reducible refine Kd.C_alloc ?_ _) | (with_reducible refine Kd.C_drewN ?_ _) | (with_reducible refine Kd.C_drew ?_))); (case side2 => exact HC2.out); rintro e w60 ⟨rfl, hb⟩; refine ⟨_, rfl, ?_⟩; have n0_ := Aside0.mk (below_step (by repeat (first | (with_reducible first | exact HB.out | apply below_alloc | apply pw_below_drewN | apply below_drew1) | exact HB.out)) hb); clear HB; have HB := n0_; clear n0_; (try clear hb); (try clear hb2); (try clear hk); (try clear hi)) | ((with_reducible refine gate_callee (f := 20) rfl ?_); refine goesL_ (some 45) rfl rfl Try.func20 (by kernel_rfl) rfl #[.string a0, .slice A1 l1.length c1, .slice A2 l2.length c2] rfl (by (try simp only [List.map_toArray, List.map_cons, List.map_nil]); first | done | rfl | (simp only [List.length_drop, List.length_take]; rfl)) ?_; (with_reducible refine (edit_Then.calls kj3 a0 _ _ l1 _ _ l2 t256 t257 _ ?side1 ?side2 ?side3 ?side4 A17.out).mono ?_); (case side1 => repeat (first | exact (Kd.C_below HR1.out HB.out) | (with_reducible refine Kd.C_alloc ?_ _) | (with_reducible refine Kd.C_drewN ?_ _) | (with_reducible refine Kd.C_drew ?_))); (case side2 => exact HC1.out); (case side3 => repeat (first | exact (Kd.C_below HR2.out HB.out) | (with_reducible refine Kd.C_alloc ?_ _) | (with_reducible refine Kd.C_drewN ?_ _) | (with_reducible refine Kd.C_drew ?_))); (case side4 => exact HC2.out); rintro e w61 ⟨v258, rfl, ho0, hb⟩; refine ⟨_, rfl, ?_⟩; have n0_ := Aside0.mk (Kd.R_lower ho0 (below_size (by repeat (first | (with_reducible first | exact HB.out | apply below_alloc | apply pw_below_drewN | apply below_drew1) | exact HB.out)))); have n1_ := Aside0.mk (below_step (by repeat (first | (with_reducible first | exact HB.out | apply below_alloc | apply pw_below_drewN | apply below_drew1) | exact HB.out)) hb); clear HB; have HO259 := n0_; have HB := n1_; clear n0_ n1_; (try clear hb); (try clear hb2); (try clear hk); (try clear hi); (try clear ho0)) | ((with_reducible refine gate_callee (f := 17) rfl ?_); refine goesL_ (some 49) rfl rfl Try.func17 (by kernel_rfl) rfl #[.int .i64 t253] rfl (by (try simp only [List.map_toArray, List.map_cons, List.map_nil]); first | done | rfl | (simp only [List.length_drop, List.length_take]; rfl)) ?_; (with_reducible refine (oriellaw01_No.calls t253 t260 _ A18.out).mono ?_); rintro e w' ⟨rfl, ⟨nd, rfl⟩⟩; refine ⟨_, rfl, ?_⟩) | ((with_reducible refine gate_callee (f := 17) rfl ?_); refine goesL_ (some 52) rfl rfl Try.func17 (by kernel_rfl) rfl #[.int .i64 t257] rfl (by (try simp only [List.map_toArray, List.map_cons, List.map_nil]); first | done | rfl | (simp only [List.length_drop, List.length_take]; rfl)) ?_; (with_reducible refine (oriellaw01_No.calls t257 t261 _ A54.out).mono ?_); rintro e w' ⟨rfl, ⟨nd, rfl⟩⟩; refine ⟨_, rfl, ?_⟩) | ((with_reducible refine gate_callee (f := 17) rfl ?_); refine goesL_ (some 54) rfl rfl Try.func17 (by kernel_rfl) rfl #[.int .i64 t253] rfl (by (try simp only [List.map_toArray, List.map_cons, List.map_nil]); first | done | rfl | (simp only [List.length_drop, List.length_take]; rfl)) ?_; (with_reducible refine (oriellaw01_No.calls t253 t260 _ A18.out).mono ?_); rintro e w' ⟨rfl, ⟨nd, rfl⟩⟩; refine ⟨_, rfl, ?_⟩; obtain ⟨Ao62, co62, eo62⟩ := Kd.R_slice HO259.out; subst eo62) | (go_at_call 10; (with_reducible refine (oriellaw02_alive.calls kj3  t263 _ A58.out).mono ?_); rintro e w63 ⟨rfl, hb⟩; have n0_ := Aside0.mk (Kd.R_below (by (with_reducible repeat (first | apply Kd.R_alloc | apply Kd.R_drewN | apply Kd.R_drew)); exact HO259.out) hb); have n1_ := Aside0.mk (below_step (by repeat (first | (with_reducible first | exact HB.out | apply below_alloc | apply pw_below_drewN | apply below_drew1) | exact HB.out)) hb); clear HO259; clear HB; have HO259 := n0_; have HB := n1_; clear n0_ n1_; (try clear hb); (try clear hb2); (try clear hk); (try clear hi)))
              go_ret
              exact ⟨by first | rfl | (simp [errW_none, errW_some] <;> rfl) | (simp [*, errW_none, errW_some] <;> rfl), by repeat (first | (with_reducible first | exact HB.out | apply below_alloc | apply pw_below_drewN | apply below_drew1) | exact HB.out)⟩
            · rw [if_neg c57] at H
              exact absurd H (by simp)
          · rw [if_neg c56] at H
            exact absurd H (by simp)

end Go.Proofs.Ytmgeheomokjimaa.PAll
