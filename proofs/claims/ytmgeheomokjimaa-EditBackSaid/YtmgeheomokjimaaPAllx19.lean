-- Written by ownprint.py, a program of this session (out of the kit's print, with contracts of the session's own).
import Derived.Test.YtmgeheomokjimaaPAllx0
import Derived.Test.YtmgeheomokjimaaPAllx3
import Derived.Test.YtmgeheomokjimaaPAllx7
import Derived.Test.YtmgeheomokjimaaPAllx8
import Derived.Test.YtmgeheomokjimaaPAllx9
import Derived.Test.YtmgeheomokjimaaPAllx11
namespace Go.Proofs.Ytmgeheomokjimaa.PAll
open Go.RowKit Go.Proofs.YtmgeheomokjimaaW.PrintWords Go.Proofs.YtmgeheomokjimaaW.PrintLast Go.Proofs.YtmgeheomokjimaaW.PrintMore
attribute [local go_sem] max2_int min2_int max_two min_two max_three min_three max_four min_four   -- for this text's walks alone
set_option linter.unusedVariables false
set_option linter.unusedSimpArgs false

/-! ### oriellaw02_EditBack: function 4 -/
def oriellaw02_EditBack.j0 : Nat → ByteArray → List (S47) → Bool → Option (Bool)
  | 0, _, _, _ => none
  | k + 1, x0, x1, x18 => if x18 = true then ((oriellaw02_alive.f k).bind fun t190 => (some t190)) else ((edit_Apply.f k x0 x1).bind fun bt191 => ((edit_Back.f k x0 x1).bind fun bt193 => ((oriellaw01_No.f bt191.2).bind fun t197 => ((oriellaw01_No.f bt193.2).bind fun t198 => (if t197 = t198 then ((oriellaw01_No.f bt191.2).bind fun t199 => (if t197 = 0 then ((edit_Apply.f k bt191.1 bt193.1).bind fun bt201 => ((oriellaw01_No.f bt201.2).bind fun t203 => (if t203 = 0 then (if bt201.1.toList = x0.toList then (if (bt193.1.length : Int) = (x1.length : Int) then ((oriellaw02_alive.f k).bind fun t204 => (some t204)) else (none)) else (none)) else (none)))) else (if bt191.1.toList = ([] : List UInt8) then (if (bt193.1.length : Int) = 0 then ((oriellaw02_alive.f k).bind fun t200 => (some t200)) else (none)) else (none)))) else (none))))))
def oriellaw02_EditBack.f (k : Nat) (a0 : ByteArray) (l1 : List (S47)) : Option (Bool) := if (a0.size : Int) > 2000 then (oriellaw02_EditBack.j0 k a0 l1 true) else ((oriellaw02_few.f k l1).bind fun t189 => (oriellaw02_EditBack.j0 k a0 l1 (!t189)))
theorem oriellaw02_EditBack.mono_l : ∀ k, (∀ y0 y1 y2, LeO (oriellaw02_EditBack.j0 k y0 y1 y2) (oriellaw02_EditBack.j0 (k + 1) y0 y1 y2))
  | 0 => fun _ _ _ r h => by simp [oriellaw02_EditBack.j0] at h
  | k + 1 => by
    have ih0 := oriellaw02_EditBack.mono_l k
    · intro y0 y1 y2
      unfold oriellaw02_EditBack.j0
      repeat' first
      | (with_reducible exact ih0 _ _ _)
      | (with_reducible exact edit_Apply.mono _ _ _)
      | (with_reducible exact edit_Back.mono _ _ _)
      | (with_reducible exact oriellaw02_alive.mono _)
      | (with_reducible exact oriellaw02_few.mono _ _)
      | (with_reducible exact LeO.refl _)
      | (with_reducible exact LeO.none _)
      | (with_reducible refine LeO.ite ?_ ?_)
      | (with_reducible refine LeO.bind ?_ (fun _ => ?_))
      | exact ih0 _ _ _
      | exact edit_Apply.mono _ _ _
      | exact edit_Back.mono _ _ _
      | exact oriellaw02_alive.mono _
      | exact oriellaw02_few.mono _ _
      | exact LeO.none _
      | refine LeO.ite ?_ ?_
      | refine LeO.bind ?_ (fun _ => ?_)
theorem oriellaw02_EditBack.mono : ∀ a0 a1 k, LeO (oriellaw02_EditBack.f k a0 a1) (oriellaw02_EditBack.f (k + 1) a0 a1) := by
  intro a0 a1 k
  have ih0 := oriellaw02_EditBack.mono_l k
  unfold oriellaw02_EditBack.f
  repeat' first
      | (with_reducible exact ih0 _ _ _)
      | (with_reducible exact edit_Apply.mono _ _ _)
      | (with_reducible exact edit_Back.mono _ _ _)
      | (with_reducible exact oriellaw02_alive.mono _)
      | (with_reducible exact oriellaw02_few.mono _ _)
      | (with_reducible exact LeO.refl _)
      | (with_reducible exact LeO.none _)
      | (with_reducible refine LeO.ite ?_ ?_)
      | (with_reducible refine LeO.bind ?_ (fun _ => ?_))
      | exact ih0 _ _ _
      | exact edit_Apply.mono _ _ _
      | exact edit_Back.mono _ _ _
      | exact oriellaw02_alive.mono _
      | exact oriellaw02_few.mono _ _
      | exact LeO.none _
      | refine LeO.ite ?_ ?_
      | refine LeO.bind ?_ (fun _ => ?_)
set_option maxHeartbeats 8000000 in
set_option maxRecDepth 100000 in
theorem oriellaw02_EditBack.calls (k : Nat) (a0 : ByteArray) (A1 : Option Addr) (c1 : Nat) (l1 : List (S47)) (r : Bool) (w : World) (hr1 : Kd.C k47 w A1 l1.length l1) (hc1 : l1.length ≤ c1) (h : oriellaw02_EditBack.f k a0 l1 = some r) :
    Calls Try.prog 4 #[.string a0, .slice A1 l1.length c1] w fun e w' => e = .returned (.bool r) ∧ Below w.heap.size w w' := by
  have HR1 := Aside0.mk hr1
  have HC1 := Aside0.mk hc1
  clear hr1 hc1
  have HB := Aside0.mk (Below.refl w.heap.size w)
  have H : (if (a0.size : Int) > 2000 then (oriellaw02_EditBack.j0 k a0 l1 true) else ((oriellaw02_few.f k l1).bind fun t189 => (oriellaw02_EditBack.j0 k a0 l1 (!t189)))) = some r := h
  clear h
  have HC3 := Aside0.mk H
  clear H
  go_enter Try.func4, Try.ntmps4
  go_upto_region 1 with (fail)
  go_cut [18] (fun v18 wc => ∃ (kq : Nat) (x18_2 : Bool), v18 = .bool x18_2 ∧ Aside0 (oriellaw02_EditBack.j0 kq a0 l1 x18_2 = some r) ∧ Aside0 (kq ≤ k) ∧ Aside0 (Below w.heap.size w wc))
  case first =>
    have H := HC3.out
    clear HC3
    by_cases c4 : (a0.size : Int) > 2000
    · rw [if_pos c4] at H
      have c4b0 : decide (2000 < (a0.size : Int)) = true := decide_eq_true c4
      have c4b1 : decide (2000 < a0.size) = true := decide_eq_true (by omega)
      clear c4
      (first | rw [c4b0] | (simp only [i64_w, i32_w]; rw [c4b0]) | skip)
      have H' := Aside0.mk H
      clear H
      go_wp2
      go_meet
      case rel => exact ⟨_, (true), (by first | rfl | (simp; done) | (simp [*]; done)), H', ⟨by first | omega | exact Nat.le_refl _⟩, ⟨by repeat (first | (with_reducible first | exact HB.out | apply below_alloc | apply pw_below_drewN | apply below_drew1) | exact HB.out)⟩⟩
    · rw [if_neg c4] at H
      have c4b0 : decide (2000 < (a0.size : Int)) = false := decide_eq_false c4
      have c4b1 : decide (2000 < a0.size) = false := decide_eq_false (by omega)
      clear c4
      (first | rw [c4b0] | (simp only [i64_w, i32_w]; rw [c4b0]) | skip)
      replace H := Option.bind_eq_some_iff.mp H
      obtain ⟨t189, A50, H⟩ := H
      replace H : (oriellaw02_EditBack.j0 k a0 l1 (!t189)) = some r := H
      have A5 := Aside0.mk A50
      clear A50
      have H' := Aside0.mk H
      clear H
      go_wp2_with (first | (go_at_call 9; (with_reducible refine (oriellaw02_few.calls k _ _ l1 t189 _ ?side1 ?side2 A5.out).mono ?_); (case side1 => repeat (first | exact (Kd.C_below HR1.out HB.out) | (with_reducible refine Kd.C_alloc ?_ _) | (with_reducible refine Kd.C_drewN ?_ _) | (with_reducible refine Kd.C_drew ?_))); (case side2 => exact HC1.out); rintro e w6 ⟨rfl, hb⟩; have n0_ := Aside0.mk (below_step (by repeat (first | (with_reducible first | exact HB.out | apply below_alloc | apply pw_below_drewN | apply below_drew1) | exact HB.out)) hb); clear HB; have HB := n0_; clear n0_; (try clear hb); (try clear hb2); (try clear hk); (try clear hi)))
      go_meet
      case rel => exact ⟨_, (!t189), (by first | rfl | (simp; done) | (simp [*]; done)), H', ⟨by first | omega | exact Nat.le_refl _⟩, ⟨by repeat (first | (with_reducible first | exact HB.out | apply below_alloc | apply pw_below_drewN | apply below_drew1) | exact HB.out)⟩⟩
  case rest =>
    clear HC3
    try clear c1
    try clear p2
    try clear c4
    try clear c4b0
    try clear c4b1
    obtain ⟨kq, x18_2, rfl, HA, HJ2, HB⟩ := hcut
    cases kq with
    | zero => exact absurd HA.out (by simp [oriellaw02_EditBack.j0])
    | succ kj2 =>
      have H := HA.out
      clear HA
      simp only [oriellaw02_EditBack.j0] at H
      by_cases c7 : x18_2 = true
      · subst c7
        have H1 : ((oriellaw02_alive.f kj2).bind fun t190 => (some t190)) = some r := by rw [if_pos rfl] at H; exact H
        clear H
        have H := H1
        clear H1
        replace H := Option.bind_eq_some_iff.mp H
        obtain ⟨t190, A80, H⟩ := H
        replace H : (some t190) = some r := H
        have A8 := Aside0.mk A80
        clear A80
        obtain rfl := Option.some.inj H
        go_wp2_with (first | ((with_reducible refine gate_callee (f := 10) rfl ?_); refine goesL_ (some 19) rfl rfl Try.func10 (by kernel_rfl) rfl #[] rfl (by (try simp only [List.map_toArray, List.map_cons, List.map_nil]); first | done | rfl | (simp only [List.length_drop, List.length_take]; rfl)) ?_; (with_reducible refine (oriellaw02_alive.calls kj2  t190 _ A8.out).mono ?_); rintro e w9 ⟨rfl, hb⟩; refine ⟨_, rfl, ?_⟩; have n0_ := Aside0.mk (below_step (by repeat (first | (with_reducible first | exact HB.out | apply below_alloc | apply pw_below_drewN | apply below_drew1) | exact HB.out)) hb); clear HB; have HB := n0_; clear n0_; (try clear hb); (try clear hb2); (try clear hk); (try clear hi)))
        go_ret
        exact ⟨by first | rfl | (simp [errW_none, errW_some] <;> rfl) | (simp [*, errW_none, errW_some] <;> rfl), by repeat (first | (with_reducible first | exact HB.out | apply below_alloc | apply pw_below_drewN | apply below_drew1) | exact HB.out)⟩
      · replace c7 := Bool.eq_false_iff.mpr c7
        subst c7
        have H1 : ((edit_Apply.f kj2 a0 l1).bind fun bt191 => ((edit_Back.f kj2 a0 l1).bind fun bt193 => ((oriellaw01_No.f bt191.2).bind fun t197 => ((oriellaw01_No.f bt193.2).bind fun t198 => (if t197 = t198 then ((oriellaw01_No.f bt191.2).bind fun t199 => (if t197 = 0 then ((edit_Apply.f kj2 bt191.1 bt193.1).bind fun bt201 => ((oriellaw01_No.f bt201.2).bind fun t203 => (if t203 = 0 then (if bt201.1.toList = a0.toList then (if (bt193.1.length : Int) = (l1.length : Int) then ((oriellaw02_alive.f kj2).bind fun t204 => (some t204)) else (none)) else (none)) else (none)))) else (if bt191.1.toList = ([] : List UInt8) then (if (bt193.1.length : Int) = 0 then ((oriellaw02_alive.f kj2).bind fun t200 => (some t200)) else (none)) else (none)))) else (none)))))) = some r := by rw [if_neg (show ¬ (false = true) by decide)] at H; exact H
        clear H
        have H := H1
        clear H1
        replace H := Option.bind_eq_some_iff.mp H
        obtain ⟨⟨t191, t192⟩, A100, H⟩ := H
        replace H : ((edit_Back.f kj2 a0 l1).bind fun bt193 => ((oriellaw01_No.f t192).bind fun t197 => ((oriellaw01_No.f bt193.2).bind fun t198 => (if t197 = t198 then ((oriellaw01_No.f t192).bind fun t199 => (if t197 = 0 then ((edit_Apply.f kj2 t191 bt193.1).bind fun bt201 => ((oriellaw01_No.f bt201.2).bind fun t203 => (if t203 = 0 then (if bt201.1.toList = a0.toList then (if (bt193.1.length : Int) = (l1.length : Int) then ((oriellaw02_alive.f kj2).bind fun t204 => (some t204)) else (none)) else (none)) else (none)))) else (if t191.toList = ([] : List UInt8) then (if (bt193.1.length : Int) = 0 then ((oriellaw02_alive.f kj2).bind fun t200 => (some t200)) else (none)) else (none)))) else (none))))) = some r := H
        have A10 := Aside0.mk A100
        clear A100
        replace H := Option.bind_eq_some_iff.mp H
        obtain ⟨⟨t193, t194⟩, A110, H⟩ := H
        replace H : ((oriellaw01_No.f t192).bind fun t197 => ((oriellaw01_No.f t194).bind fun t198 => (if t197 = t198 then ((oriellaw01_No.f t192).bind fun t199 => (if t197 = 0 then ((edit_Apply.f kj2 t191 t193).bind fun bt201 => ((oriellaw01_No.f bt201.2).bind fun t203 => (if t203 = 0 then (if bt201.1.toList = a0.toList then (if (t193.length : Int) = (l1.length : Int) then ((oriellaw02_alive.f kj2).bind fun t204 => (some t204)) else (none)) else (none)) else (none)))) else (if t191.toList = ([] : List UInt8) then (if (t193.length : Int) = 0 then ((oriellaw02_alive.f kj2).bind fun t200 => (some t200)) else (none)) else (none)))) else (none)))) = some r := H
        have A11 := Aside0.mk A110
        clear A110
        replace H := Option.bind_eq_some_iff.mp H
        obtain ⟨t197, A120, H⟩ := H
        replace H : ((oriellaw01_No.f t194).bind fun t198 => (if t197 = t198 then ((oriellaw01_No.f t192).bind fun t199 => (if t197 = 0 then ((edit_Apply.f kj2 t191 t193).bind fun bt201 => ((oriellaw01_No.f bt201.2).bind fun t203 => (if t203 = 0 then (if bt201.1.toList = a0.toList then (if (t193.length : Int) = (l1.length : Int) then ((oriellaw02_alive.f kj2).bind fun t204 => (some t204)) else (none)) else (none)) else (none)))) else (if t191.toList = ([] : List UInt8) then (if (t193.length : Int) = 0 then ((oriellaw02_alive.f kj2).bind fun t200 => (some t200)) else (none)) else (none)))) else (none))) = some r := H
        have A12 := Aside0.mk A120
        clear A120
        replace H := Option.bind_eq_some_iff.mp H
        obtain ⟨t198, A130, H⟩ := H
        replace H : (if t197 = t198 then ((oriellaw01_No.f t192).bind fun t199 => (if t197 = 0 then ((edit_Apply.f kj2 t191 t193).bind fun bt201 => ((oriellaw01_No.f bt201.2).bind fun t203 => (if t203 = 0 then (if bt201.1.toList = a0.toList then (if (t193.length : Int) = (l1.length : Int) then ((oriellaw02_alive.f kj2).bind fun t204 => (some t204)) else (none)) else (none)) else (none)))) else (if t191.toList = ([] : List UInt8) then (if (t193.length : Int) = 0 then ((oriellaw02_alive.f kj2).bind fun t200 => (some t200)) else (none)) else (none)))) else (none)) = some r := H
        have A13 := Aside0.mk A130
        clear A130
        by_cases c14 : t197 = t198
        · rw [if_pos c14] at H
          have c14b0 : (t197 == t198) = true := beq_iff_eq.mpr c14
          have c14b1 : (t197 != t198) = false := bne_eq_false_iff_eq.mpr c14
          clear c14
          replace H := Option.bind_eq_some_iff.mp H
          obtain ⟨t199, A150, H⟩ := H
          replace H : (if t197 = 0 then ((edit_Apply.f kj2 t191 t193).bind fun bt201 => ((oriellaw01_No.f bt201.2).bind fun t203 => (if t203 = 0 then (if bt201.1.toList = a0.toList then (if (t193.length : Int) = (l1.length : Int) then ((oriellaw02_alive.f kj2).bind fun t204 => (some t204)) else (none)) else (none)) else (none)))) else (if t191.toList = ([] : List UInt8) then (if (t193.length : Int) = 0 then ((oriellaw02_alive.f kj2).bind fun t200 => (some t200)) else (none)) else (none))) = some r := H
          clear A150
          by_cases c16 : t197 = 0
          · rw [if_pos c16] at H
            have c16b0 : (t197 == 0) = true := beq_iff_eq.mpr c16
            have c16b1 : (t197 != 0) = false := bne_eq_false_iff_eq.mpr c16
            clear c16
            replace H := Option.bind_eq_some_iff.mp H
            obtain ⟨⟨t201, t202⟩, A170, H⟩ := H
            replace H : ((oriellaw01_No.f t202).bind fun t203 => (if t203 = 0 then (if t201.toList = a0.toList then (if (t193.length : Int) = (l1.length : Int) then ((oriellaw02_alive.f kj2).bind fun t204 => (some t204)) else (none)) else (none)) else (none))) = some r := H
            have A17 := Aside0.mk A170
            clear A170
            replace H := Option.bind_eq_some_iff.mp H
            obtain ⟨t203, A180, H⟩ := H
            replace H : (if t203 = 0 then (if t201.toList = a0.toList then (if (t193.length : Int) = (l1.length : Int) then ((oriellaw02_alive.f kj2).bind fun t204 => (some t204)) else (none)) else (none)) else (none)) = some r := H
            have A18 := Aside0.mk A180
            clear A180
            by_cases c19 : t203 = 0
            · rw [if_pos c19] at H
              have c19b0 : (t203 == 0) = true := beq_iff_eq.mpr c19
              have c19b1 : (t203 != 0) = false := bne_eq_false_iff_eq.mpr c19
              clear c19
              by_cases c20 : t201.toList = a0.toList
              · rw [if_pos c20] at H
                have c20b0 : (t201.toList == a0.toList) = true := beq_iff_eq.mpr c20
                have c20b1 : (t201.toList != a0.toList) = false := bne_eq_false_iff_eq.mpr c20
                clear c20
                by_cases c21 : (t193.length : Int) = (l1.length : Int)
                · rw [if_pos c21] at H
                  have c21b0 : ((t193.length : Int) == (l1.length : Int)) = true := beq_iff_eq.mpr c21
                  have c21b1 : ((t193.length : Int) != (l1.length : Int)) = false := bne_eq_false_iff_eq.mpr c21
                  have c21b2 : (t193.length == l1.length) = true := by first | simpa using c21 | (simp at c21 ⊢; omega)
                  clear c21
                  replace H := Option.bind_eq_some_iff.mp H
                  obtain ⟨t204, A220, H⟩ := H
                  replace H : (some t204) = some r := H
                  have A22 := Aside0.mk A220
                  clear A220
                  obtain rfl := Option.some.inj H
                  go_wp2_with (first | ((with_reducible refine gate_callee (f := 18) rfl ?_); refine goesL_ (some 23) rfl rfl Try.func18 (by kernel_rfl) rfl #[.string a0, .slice A1 l1.length c1] rfl (by (try simp only [List.map_toArray, List.map_cons, List.map_nil]); first | done | rfl | (simp only [List.length_drop, List.length_take]; rfl)) ?_; (with_reducible refine (edit_Apply.calls kj2 a0 _ _ l1 t191 t192 _ ?side1 ?side2 A10.out).mono ?_); (case side1 => repeat (first | exact (Kd.C_below HR1.out HB.out) | (with_reducible refine Kd.C_alloc ?_ _) | (with_reducible refine Kd.C_drewN ?_ _) | (with_reducible refine Kd.C_drew ?_))); (case side2 => exact HC1.out); rintro e w23 ⟨rfl, hb⟩; refine ⟨_, rfl, ?_⟩; have n0_ := Aside0.mk (below_step (by repeat (first | (with_reducible first | exact HB.out | apply below_alloc | apply pw_below_drewN | apply below_drew1) | exact HB.out)) hb); clear HB; have HB := n0_; clear n0_; (try clear hb); (try clear hb2); (try clear hk); (try clear hi)) | ((with_reducible refine gate_callee (f := 19) rfl ?_); refine goesL_ (some 29) rfl rfl Try.func19 (by kernel_rfl) rfl #[.string a0, .slice A1 l1.length c1] rfl (by (try simp only [List.map_toArray, List.map_cons, List.map_nil]); first | done | rfl | (simp only [List.length_drop, List.length_take]; rfl)) ?_; (with_reducible refine (edit_Back.calls kj2 a0 _ _ l1 t193 t194 _ ?side1 ?side2 A11.out).mono ?_); (case side1 => repeat (first | exact (Kd.C_below HR1.out HB.out) | (with_reducible refine Kd.C_alloc ?_ _) | (with_reducible refine Kd.C_drewN ?_ _) | (with_reducible refine Kd.C_drew ?_))); (case side2 => exact HC1.out); rintro e w24 ⟨v195, rfl, ho0, hb⟩; refine ⟨_, rfl, ?_⟩; have n0_ := Aside0.mk (Kd.R_lower ho0 (below_size (by repeat (first | (with_reducible first | exact HB.out | apply below_alloc | apply pw_below_drewN | apply below_drew1) | exact HB.out)))); have n1_ := Aside0.mk (below_step (by repeat (first | (with_reducible first | exact HB.out | apply below_alloc | apply pw_below_drewN | apply below_drew1) | exact HB.out)) hb); clear HB; have HO196 := n0_; have HB := n1_; clear n0_ n1_; (try clear hb); (try clear hb2); (try clear hk); (try clear hi); (try clear ho0)) | ((with_reducible refine gate_callee (f := 17) rfl ?_); refine goesL_ (some 33) rfl rfl Try.func17 (by kernel_rfl) rfl #[.int .i64 t192] rfl (by (try simp only [List.map_toArray, List.map_cons, List.map_nil]); first | done | rfl | (simp only [List.length_drop, List.length_take]; rfl)) ?_; (with_reducible refine (oriellaw01_No.calls t192 t197 _ A12.out).mono ?_); rintro e w' ⟨rfl, ⟨nd, rfl⟩⟩; refine ⟨_, rfl, ?_⟩) | ((with_reducible refine gate_callee (f := 17) rfl ?_); refine goesL_ (some 35) rfl rfl Try.func17 (by kernel_rfl) rfl #[.int .i64 t194] rfl (by (try simp only [List.map_toArray, List.map_cons, List.map_nil]); first | done | rfl | (simp only [List.length_drop, List.length_take]; rfl)) ?_; (with_reducible refine (oriellaw01_No.calls t194 t198 _ A13.out).mono ?_); rintro e w' ⟨rfl, ⟨nd, rfl⟩⟩; refine ⟨_, rfl, ?_⟩) | ((with_reducible refine gate_callee (f := 17) rfl ?_); refine goesL_ (some 38) rfl rfl Try.func17 (by kernel_rfl) rfl #[.int .i64 t192] rfl (by (try simp only [List.map_toArray, List.map_cons, List.map_nil]); first | done | rfl | (simp only [List.length_drop, List.length_take]; rfl)) ?_; (with_reducible refine (oriellaw01_No.calls t192 t197 _ A12.out).mono ?_); rintro e w' ⟨rfl, ⟨nd, rfl⟩⟩; refine ⟨_, rfl, ?_⟩; obtain ⟨Ao25, co25, eo25⟩ := Kd.R_slice HO196.out; subst eo25) | ((with_reducible refine gate_callee (f := 18) rfl ?_); refine goesL_ (some 53) rfl rfl Try.func18 (by kernel_rfl) rfl #[.string t191, .slice Ao25 t193.length co25] rfl (by (try simp only [List.map_toArray, List.map_cons, List.map_nil]); first | done | rfl | (simp only [List.length_drop, List.length_take]; rfl)) ?_; (with_reducible refine (edit_Apply.calls kj2 t191 _ _ t193 t201 t202 _ ?side1 ?side2 A17.out).mono ?_); (case side1 => repeat (first | exact (Kd.R_reads' HO196.out).2.2 | (with_reducible refine Kd.C_alloc ?_ _) | (with_reducible refine Kd.C_drewN ?_ _) | (with_reducible refine Kd.C_drew ?_))); (case side2 => exact (Kd.R_reads' HO196.out).2.1); rintro e w26 ⟨rfl, hb⟩; refine ⟨_, rfl, ?_⟩; have n0_ := Aside0.mk (Kd.R_below (by (with_reducible repeat (first | apply Kd.R_alloc | apply Kd.R_drewN | apply Kd.R_drew)); exact HO196.out) hb); have n1_ := Aside0.mk (below_step (by repeat (first | (with_reducible first | exact HB.out | apply below_alloc | apply pw_below_drewN | apply below_drew1) | exact HB.out)) hb); clear HO196; clear HB; have HO196 := n0_; have HB := n1_; clear n0_ n1_; (try clear hb); (try clear hb2); (try clear hk); (try clear hi)) | ((with_reducible refine gate_callee (f := 17) rfl ?_); refine goesL_ (some 57) rfl rfl Try.func17 (by kernel_rfl) rfl #[.int .i64 t202] rfl (by (try simp only [List.map_toArray, List.map_cons, List.map_nil]); first | done | rfl | (simp only [List.length_drop, List.length_take]; rfl)) ?_; (with_reducible refine (oriellaw01_No.calls t202 t203 _ A18.out).mono ?_); rintro e w' ⟨rfl, ⟨nd, rfl⟩⟩; refine ⟨_, rfl, ?_⟩) | (go_at_call 10; (with_reducible refine (oriellaw02_alive.calls kj2  t204 _ A22.out).mono ?_); rintro e w27 ⟨rfl, hb⟩; have n0_ := Aside0.mk (Kd.R_below (by (with_reducible repeat (first | apply Kd.R_alloc | apply Kd.R_drewN | apply Kd.R_drew)); exact HO196.out) hb); have n1_ := Aside0.mk (below_step (by repeat (first | (with_reducible first | exact HB.out | apply below_alloc | apply pw_below_drewN | apply below_drew1) | exact HB.out)) hb); clear HO196; clear HB; have HO196 := n0_; have HB := n1_; clear n0_ n1_; (try clear hb); (try clear hb2); (try clear hk); (try clear hi)))
                  go_ret
                  exact ⟨by first | rfl | (simp [errW_none, errW_some] <;> rfl) | (simp [*, errW_none, errW_some] <;> rfl), by repeat (first | (with_reducible first | exact HB.out | apply below_alloc | apply pw_below_drewN | apply below_drew1) | exact HB.out)⟩
                · rw [if_neg c21] at H
                  exact absurd H (by simp)
              · rw [if_neg c20] at H
                exact absurd H (by simp)
            · rw [if_neg c19] at H
              exact absurd H (by simp)
          · rw [if_neg c16] at H
            have c16b0 : (t197 == 0) = false := beq_eq_false_iff_ne.mpr c16
            have c16b1 : (t197 != 0) = true := bne_iff_ne.mpr c16
            by_cases c28 : t191.toList = ([] : List UInt8)
            · rw [if_pos c28] at H
              have c28b0 : (t191.toList == ([] : List UInt8)) = true := beq_iff_eq.mpr c28
              have c28b1 : (t191.toList != ([] : List UInt8)) = false := bne_eq_false_iff_eq.mpr c28
              clear c28
              by_cases c29 : (t193.length : Int) = 0
              · rw [if_pos c29] at H
                have c29b0 : ((t193.length : Int) == 0) = true := beq_iff_eq.mpr c29
                have c29b1 : ((t193.length : Int) != 0) = false := bne_eq_false_iff_eq.mpr c29
                clear c29
                replace H := Option.bind_eq_some_iff.mp H
                obtain ⟨t200, A300, H⟩ := H
                replace H : (some t200) = some r := H
                have A30 := Aside0.mk A300
                clear A300
                obtain rfl := Option.some.inj H
                go_wp2_with (first | ((with_reducible refine gate_callee (f := 18) rfl ?_); refine goesL_ (some 23) rfl rfl Try.func18 (by kernel_rfl) rfl #[.string a0, .slice A1 l1.length c1] rfl (by (try simp only [List.map_toArray, List.map_cons, List.map_nil]); first | done | rfl | (simp only [List.length_drop, List.length_take]; rfl)) ?_; (with_reducible refine (edit_Apply.calls kj2 a0 _ _ l1 t191 t192 _ ?side1 ?side2 A10.out).mono ?_); (case side1 => repeat (first | exact (Kd.C_below HR1.out HB.out) | (with_reducible refine Kd.C_alloc ?_ _) | (with_reducible refine Kd.C_drewN ?_ _) | (with_reducible refine Kd.C_drew ?_))); (case side2 => exact HC1.out); rintro e w31 ⟨rfl, hb⟩; refine ⟨_, rfl, ?_⟩; have n0_ := Aside0.mk (below_step (by repeat (first | (with_reducible first | exact HB.out | apply below_alloc | apply pw_below_drewN | apply below_drew1) | exact HB.out)) hb); clear HB; have HB := n0_; clear n0_; (try clear hb); (try clear hb2); (try clear hk); (try clear hi)) | ((with_reducible refine gate_callee (f := 19) rfl ?_); refine goesL_ (some 29) rfl rfl Try.func19 (by kernel_rfl) rfl #[.string a0, .slice A1 l1.length c1] rfl (by (try simp only [List.map_toArray, List.map_cons, List.map_nil]); first | done | rfl | (simp only [List.length_drop, List.length_take]; rfl)) ?_; (with_reducible refine (edit_Back.calls kj2 a0 _ _ l1 t193 t194 _ ?side1 ?side2 A11.out).mono ?_); (case side1 => repeat (first | exact (Kd.C_below HR1.out HB.out) | (with_reducible refine Kd.C_alloc ?_ _) | (with_reducible refine Kd.C_drewN ?_ _) | (with_reducible refine Kd.C_drew ?_))); (case side2 => exact HC1.out); rintro e w32 ⟨v195, rfl, ho0, hb⟩; refine ⟨_, rfl, ?_⟩; have n0_ := Aside0.mk (Kd.R_lower ho0 (below_size (by repeat (first | (with_reducible first | exact HB.out | apply below_alloc | apply pw_below_drewN | apply below_drew1) | exact HB.out)))); have n1_ := Aside0.mk (below_step (by repeat (first | (with_reducible first | exact HB.out | apply below_alloc | apply pw_below_drewN | apply below_drew1) | exact HB.out)) hb); clear HB; have HO196 := n0_; have HB := n1_; clear n0_ n1_; (try clear hb); (try clear hb2); (try clear hk); (try clear hi); (try clear ho0)) | ((with_reducible refine gate_callee (f := 17) rfl ?_); refine goesL_ (some 33) rfl rfl Try.func17 (by kernel_rfl) rfl #[.int .i64 t192] rfl (by (try simp only [List.map_toArray, List.map_cons, List.map_nil]); first | done | rfl | (simp only [List.length_drop, List.length_take]; rfl)) ?_; (with_reducible refine (oriellaw01_No.calls t192 t197 _ A12.out).mono ?_); rintro e w' ⟨rfl, ⟨nd, rfl⟩⟩; refine ⟨_, rfl, ?_⟩) | ((with_reducible refine gate_callee (f := 17) rfl ?_); refine goesL_ (some 35) rfl rfl Try.func17 (by kernel_rfl) rfl #[.int .i64 t194] rfl (by (try simp only [List.map_toArray, List.map_cons, List.map_nil]); first | done | rfl | (simp only [List.length_drop, List.length_take]; rfl)) ?_; (with_reducible refine (oriellaw01_No.calls t194 t198 _ A13.out).mono ?_); rintro e w' ⟨rfl, ⟨nd, rfl⟩⟩; refine ⟨_, rfl, ?_⟩) | ((with_reducible refine gate_callee (f := 17) rfl ?_); refine goesL_ (some 38) rfl rfl Try.func17 (by kernel_rfl) rfl #[.int .i64 t192] rfl (by (try simp only [List.map_toArray, List.map_cons, List.map_nil]); first | done | rfl | (simp only [List.length_drop, List.length_take]; rfl)) ?_; (with_reducible refine (oriellaw01_No.calls t192 t197 _ A12.out).mono ?_); rintro e w' ⟨rfl, ⟨nd, rfl⟩⟩; refine ⟨_, rfl, ?_⟩; obtain ⟨Ao33, co33, eo33⟩ := Kd.R_slice HO196.out; subst eo33) | (go_at_call 10; (with_reducible refine (oriellaw02_alive.calls kj2  t200 _ A30.out).mono ?_); rintro e w34 ⟨rfl, hb⟩; have n0_ := Aside0.mk (Kd.R_below (by (with_reducible repeat (first | apply Kd.R_alloc | apply Kd.R_drewN | apply Kd.R_drew)); exact HO196.out) hb); have n1_ := Aside0.mk (below_step (by repeat (first | (with_reducible first | exact HB.out | apply below_alloc | apply pw_below_drewN | apply below_drew1) | exact HB.out)) hb); clear HO196; clear HB; have HO196 := n0_; have HB := n1_; clear n0_ n1_; (try clear hb); (try clear hb2); (try clear hk); (try clear hi)))
                go_ret
                exact ⟨by first | rfl | (simp [errW_none, errW_some] <;> rfl) | (simp [*, errW_none, errW_some] <;> rfl), by repeat (first | (with_reducible first | exact HB.out | apply below_alloc | apply pw_below_drewN | apply below_drew1) | exact HB.out)⟩
              · rw [if_neg c29] at H
                exact absurd H (by simp)
            · rw [if_neg c28] at H
              exact absurd H (by simp)
        · rw [if_neg c14] at H
          exact absurd H (by simp)

end Go.Proofs.Ytmgeheomokjimaa.PAll
