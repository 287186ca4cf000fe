-- Written by ownprint.py, a program of this session (out of the kit's print, with contracts of the session's own).
import Derived.Test.YtkdfbfhajojdeaaPOPx0
namespace Go.Proofs.Ytkdfbfhajojdeaa.POP
open Go.RowKit Go.Proofs.YtkdfbfhajojdeaaW.PrintWords Go.Proofs.YtkdfbfhajojdeaaW.PrintLast Go.Proofs.YtkdfbfhajojdeaaW.PrintMore
attribute [local go_sem] max2_int min2_int max_two min_two max_three min_three max_four min_four   -- for this text's walks alone
set_option linter.unusedVariables false
set_option linter.unusedSimpArgs false

/-! ### orielref11_Find: function 28 -/
def orielref11_Find.l0 : Nat → List (S26) → Int → ByteArray → Int → Option (Int)
  | 0, _, _, _, _ => none
  | k + 1, x0, x1, x2, x7 => if x7 ≥ 0 then (if 0 ≤ x7 then (if x7 < (x0.length : Int) then (if ((rd_T26 x0 x7).f0) = x1 then (if ((rd_T26 x0 x7).f1).toList = x2.toList then (some x7) else (orielref11_Find.l0 k x0 x1 x2 (wrap64 (x7 - 1)))) else (orielref11_Find.l0 k x0 x1 x2 (wrap64 (x7 - 1)))) else (none)) else (none)) else (some (-1))
def orielref11_Find.f (k : Nat) (l0 : List (S26)) (a1 : Int) (a2 : ByteArray) : Option (Int) := orielref11_Find.l0 k l0 a1 a2 (wrap64 ((l0.length : Int) - 1))
theorem orielref11_Find.mono_l : ∀ k, (∀ y0 y1 y2 y3, LeO (orielref11_Find.l0 k y0 y1 y2 y3) (orielref11_Find.l0 (k + 1) y0 y1 y2 y3))
  | 0 => fun _ _ _ _ r h => by simp [orielref11_Find.l0] at h
  | k + 1 => by
    have ih0 := orielref11_Find.mono_l k
    · intro y0 y1 y2 y3
      unfold orielref11_Find.l0
      repeat' first
      | (with_reducible exact ih0 _ _ _ _)
      | (with_reducible exact LeO.refl _)
      | (with_reducible exact LeO.none _)
      | (with_reducible refine LeO.ite ?_ ?_)
      | (with_reducible refine LeO.bind ?_ (fun _ => ?_))
      | exact ih0 _ _ _ _
      | exact LeO.none _
      | refine LeO.ite ?_ ?_
      | refine LeO.bind ?_ (fun _ => ?_)
theorem orielref11_Find.mono : ∀ a0 a1 a2 k, LeO (orielref11_Find.f k a0 a1 a2) (orielref11_Find.f (k + 1) a0 a1 a2) := by
  intro a0 a1 a2 k
  have ih0 := orielref11_Find.mono_l k
  unfold orielref11_Find.f
  repeat' first
      | (with_reducible exact ih0 _ _ _ _)
      | (with_reducible exact LeO.refl _)
      | (with_reducible exact LeO.none _)
      | (with_reducible refine LeO.ite ?_ ?_)
      | (with_reducible refine LeO.bind ?_ (fun _ => ?_))
      | exact ih0 _ _ _ _
      | exact LeO.none _
      | refine LeO.ite ?_ ?_
      | refine LeO.bind ?_ (fun _ => ?_)
set_option maxHeartbeats 8000000 in
set_option maxRecDepth 100000 in
theorem orielref11_Find.calls (k : Nat) (A0 : Option Addr) (c0 : Nat) (l0 : List (S26)) (a1 : Int) (a2 : ByteArray) (r : Int) (w : World) (hr0 : Kd.C k26 w A0 l0.length l0) (hc0 : l0.length ≤ c0) (h : orielref11_Find.f k l0 a1 a2 = some r) :
    Calls Try.prog 28 #[.slice A0 l0.length c0, .int .i64 a1, .string a2] w fun e w' => e = .returned (.int .i64 r) ∧ Drawn0 w w' := by
  have HR0 := Aside0.mk hr0
  have HC0 := Aside0.mk hc0
  clear hr0 hc0
  have H : (orielref11_Find.l0 k l0 a1 a2 (wrap64 ((l0.length : Int) - 1))) = some r := h
  clear h
  have H' := Aside0.mk H
  clear H
  go_enter Try.func28, Try.ntmps28
  go_wp2
  go_loopg [7] k (fun kq v7 w' => ∃ (x7_1 : Int), v7 = .int .i64 x7_1 ∧ Aside0 (orielref11_Find.l0 kq l0 a1 a2 x7_1 = some r) ∧ Aside0 (kq ≤ k) ∧ Drawn0 w w')
  case atStart => exact ⟨(wrap64 ((l0.length : Int) - 1)), (by first | rfl | (simp; done) | (simp [*]; done)), H', ⟨Nat.le_refl _⟩, by repeat (first | exact Drawn0.refl _ | apply Drawn0.step)⟩
  case round =>
    clear H'
    try clear c2
    try clear p2
    obtain ⟨x7_1, rfl, HA, HK1, ⟨m1, rfl⟩⟩ := hrel
    cases gk with
    | zero => exact absurd HA.out (by simp [orielref11_Find.l0])
    | succ k1 =>
      have H := HA.out
      clear HA
      simp only [orielref11_Find.l0] at H
      by_cases c4 : x7_1 ≥ 0
      · rw [if_pos c4] at H
        have c4b0 : decide (0 ≤ x7_1) = true := decide_eq_true c4
        clear c4
        by_cases c5 : 0 ≤ x7_1
        · rw [if_pos c5] at H
          have c5b0 : decide (0 ≤ x7_1) = true := decide_eq_true c5
          clear c5
          by_cases c6 : x7_1 < (l0.length : Int)
          · rw [if_pos c6] at H
            have c6b0 : decide (x7_1 < (l0.length : Int)) = true := decide_eq_true c6
            clear c6
            by_cases c7 : ((rd_T26 l0 x7_1).f0) = a1
            · rw [if_pos c7] at H
              have c7b0 : (((rd_T26 l0 x7_1).f0) == a1) = true := beq_iff_eq.mpr c7
              have c7b1 : (((rd_T26 l0 x7_1).f0) != a1) = false := bne_eq_false_iff_eq.mpr c7
              clear c7
              by_cases c8 : ((rd_T26 l0 x7_1).f1).toList = a2.toList
              · rw [if_pos c8] at H
                have c8b0 : (((rd_T26 l0 x7_1).f1).toList == a2.toList) = true := beq_iff_eq.mpr c8
                have c8b1 : (((rd_T26 l0 x7_1).f1).toList != a2.toList) = false := bne_eq_false_iff_eq.mpr c8
                clear c8
                obtain rfl := Option.some.inj H
                have p105 : 0 ≤ (x7_1 : Int) := of_decide_eq_true (by first | (with_reducible assumption) | assumption)
                have q105 : x7_1 < (l0.length : Int) := of_decide_eq_true (by first | (with_reducible assumption) | assumption)
                obtain ⟨ad105, A105_4, c105_4, A105_5, c105_5, e105, hx105_0, hx105_1, hx105_2, hx105_3, hx105_4, hx105_5, hl105_4, hi105_4, hl105_5, hi105_5⟩ := at_T26 HR0.out x7_1 p105 q105
                cases e105
                have HR105_4 := Aside0.mk hi105_4
                have HC105_4 := Aside0.mk hl105_4
                clear hi105_4 hl105_4
                have HR105_5 := Aside0.mk hi105_5
                have HC105_5 := Aside0.mk hl105_5
                clear hi105_5 hl105_5
                replace p105 := eq_true p105
                replace q105 := eq_true q105
                have p106 : 0 ≤ (x7_1 : Int) := of_decide_eq_true (by first | (with_reducible assumption) | assumption)
                have q106 : x7_1 < (l0.length : Int) := of_decide_eq_true (by first | (with_reducible assumption) | assumption)
                obtain ⟨ad106, A106_4, c106_4, A106_5, c106_5, e106, hx106_0, hx106_1, hx106_2, hx106_3, hx106_4, hx106_5, hl106_4, hi106_4, hl106_5, hi106_5⟩ := at_T26 HR0.out x7_1 p106 q106
                obtain rfl : ad105 = ad106 := (by injection e106)
                have HR106_4 := Aside0.mk hi106_4
                have HC106_4 := Aside0.mk hl106_4
                clear hi106_4 hl106_4
                have HR106_5 := Aside0.mk hi106_5
                have HC106_5 := Aside0.mk hl106_5
                clear hi106_5 hl106_5
                replace p106 := eq_true p106
                replace q106 := eq_true q106
                have ea_ := Option.some.inj (hx105_4.symm.trans hx106_4)
                injection ea_ with ea_ en_ ec_
                subst ea_
                subst ec_
                clear en_
                have ea_ := Option.some.inj (hx105_5.symm.trans hx106_5)
                injection ea_ with ea_ en_ ec_
                subst ea_
                subst ec_
                clear en_
                go_wp2
                go_ret
                exact ⟨by first | rfl | (simp; done) | (simp [*]; done), by repeat (first | exact Drawn0.refl _ | apply Drawn0.step)⟩
              · rw [if_neg c8] at H
                have c8b0 : (((rd_T26 l0 x7_1).f1).toList == a2.toList) = false := beq_eq_false_iff_ne.mpr c8
                have c8b1 : (((rd_T26 l0 x7_1).f1).toList != a2.toList) = true := bne_iff_ne.mpr c8
                have H' := Aside0.mk H
                clear H
                have p105 : 0 ≤ (x7_1 : Int) := of_decide_eq_true (by first | (with_reducible assumption) | assumption)
                have q105 : x7_1 < (l0.length : Int) := of_decide_eq_true (by first | (with_reducible assumption) | assumption)
                obtain ⟨ad105, A105_4, c105_4, A105_5, c105_5, e105, hx105_0, hx105_1, hx105_2, hx105_3, hx105_4, hx105_5, hl105_4, hi105_4, hl105_5, hi105_5⟩ := at_T26 HR0.out x7_1 p105 q105
                cases e105
                have HR105_4 := Aside0.mk hi105_4
                have HC105_4 := Aside0.mk hl105_4
                clear hi105_4 hl105_4
                have HR105_5 := Aside0.mk hi105_5
                have HC105_5 := Aside0.mk hl105_5
                clear hi105_5 hl105_5
                replace p105 := eq_true p105
                replace q105 := eq_true q105
                have p106 : 0 ≤ (x7_1 : Int) := of_decide_eq_true (by first | (with_reducible assumption) | assumption)
                have q106 : x7_1 < (l0.length : Int) := of_decide_eq_true (by first | (with_reducible assumption) | assumption)
                obtain ⟨ad106, A106_4, c106_4, A106_5, c106_5, e106, hx106_0, hx106_1, hx106_2, hx106_3, hx106_4, hx106_5, hl106_4, hi106_4, hl106_5, hi106_5⟩ := at_T26 HR0.out x7_1 p106 q106
                obtain rfl : ad105 = ad106 := (by injection e106)
                have HR106_4 := Aside0.mk hi106_4
                have HC106_4 := Aside0.mk hl106_4
                clear hi106_4 hl106_4
                have HR106_5 := Aside0.mk hi106_5
                have HC106_5 := Aside0.mk hl106_5
                clear hi106_5 hl106_5
                replace p106 := eq_true p106
                replace q106 := eq_true q106
                have ea_ := Option.some.inj (hx105_4.symm.trans hx106_4)
                injection ea_ with ea_ en_ ec_
                subst ea_
                subst ec_
                clear en_
                have ea_ := Option.some.inj (hx105_5.symm.trans hx106_5)
                injection ea_ with ea_ en_ ec_
                subst ea_
                subst ec_
                clear en_
                go_wp2
                go_roundg k1
                case measure => have := HK1.out; omega
                case rel => exact ⟨(wrap64 (x7_1 - 1)), (by first | rfl | (simp; done) | (simp [*]; done)), H', ⟨by have := HK1.out; omega⟩, by repeat (first | exact Drawn0.refl _ | apply Drawn0.step)⟩
            · rw [if_neg c7] at H
              have c7b0 : (((rd_T26 l0 x7_1).f0) == a1) = false := beq_eq_false_iff_ne.mpr c7
              have c7b1 : (((rd_T26 l0 x7_1).f0) != a1) = true := bne_iff_ne.mpr c7
              have H' := Aside0.mk H
              clear H
              have p105 : 0 ≤ (x7_1 : Int) := of_decide_eq_true (by first | (with_reducible assumption) | assumption)
              have q105 : x7_1 < (l0.length : Int) := of_decide_eq_true (by first | (with_reducible assumption) | assumption)
              obtain ⟨ad105, A105_4, c105_4, A105_5, c105_5, e105, hx105_0, hx105_1, hx105_2, hx105_3, hx105_4, hx105_5, hl105_4, hi105_4, hl105_5, hi105_5⟩ := at_T26 HR0.out x7_1 p105 q105
              cases e105
              have HR105_4 := Aside0.mk hi105_4
              have HC105_4 := Aside0.mk hl105_4
              clear hi105_4 hl105_4
              have HR105_5 := Aside0.mk hi105_5
              have HC105_5 := Aside0.mk hl105_5
              clear hi105_5 hl105_5
              replace p105 := eq_true p105
              replace q105 := eq_true q105
              go_wp2
              go_roundg k1
              case measure => have := HK1.out; omega
              case rel => exact ⟨(wrap64 (x7_1 - 1)), (by first | rfl | (simp; done) | (simp [*]; done)), H', ⟨by have := HK1.out; omega⟩, by repeat (first | exact Drawn0.refl _ | apply Drawn0.step)⟩
          · rw [if_neg c6] at H
            exact absurd H (by simp)
        · rw [if_neg c5] at H
          exact absurd H (by simp)
      · rw [if_neg c4] at H
        have c4b0 : decide (0 ≤ x7_1) = false := decide_eq_false c4
        clear c4
        obtain rfl := Option.some.inj H
        go_wp2
        go_ret
        exact ⟨by first | rfl | (simp; done) | (simp [*]; done), by repeat (first | exact Drawn0.refl _ | apply Drawn0.step)⟩

end Go.Proofs.Ytkdfbfhajojdeaa.POP
