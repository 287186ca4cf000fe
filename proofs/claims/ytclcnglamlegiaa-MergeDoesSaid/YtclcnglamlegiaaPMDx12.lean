-- Written by ownprint.py, a program of this session (out of the kit's print, with contracts of the session's own).
import Derived.Test.YtclcnglamlegiaaWMore
import Derived.Test.YtclcnglamlegiaaPMDx0
namespace Go.Proofs.Ytclcnglamlegiaa.PMD
open Go.RowKit Go.Proofs.YtclcnglamlegiaaW.PrintWords Go.Proofs.YtclcnglamlegiaaW.PrintLast Go.Proofs.YtclcnglamlegiaaW.PrintMore
attribute [local go_sem] max2_int min2_int max_two min_two max_three min_three max_four min_four   -- for this text's walks alone
set_option linter.unusedVariables false
set_option linter.unusedSimpArgs false
/-! ### merge_behind: function 34 -/
def merge_behind.l0 : Nat → ByteArray → ByteArray → Int → Option (Int)
 | 0, _, _, _ => none
 | k + 1, x0, x1, x5 => if x5 < (x0.size : Int) then (if x5 < (x1.size : Int) then (if 0 ≤ (wrap64 ((wrap64 ((x0.size : Int) - 1)) - x5)) then (if (wrap64 ((wrap64 ((x0.size : Int) - 1)) - x5)) < (x0.size : Int) then (if 0 ≤ (wrap64 ((wrap64 ((x1.size : Int) - 1)) - x5)) then (if (wrap64 ((wrap64 ((x1.size : Int) - 1)) - x5)) < (x1.size : Int) then (if (bt x0 (wrap64 ((wrap64 ((x0.size : Int) - 1)) - x5))) = (bt x1 (wrap64 ((wrap64 ((x1.size : Int) - 1)) - x5))) then (merge_behind.l0 k x0 x1 (wrap64 (x5 + 1))) else (some x5)) else (none)) else (none)) else (none)) else (none)) else (some x5)) else (some x5)
def merge_behind.f (k : Nat) (a0 : ByteArray) (a1 : ByteArray) : Option (Int) := merge_behind.l0 k a0 a1 0
set_option maxHeartbeats 8000000 in
set_option maxRecDepth 100000 in
theorem merge_behind.calls (k : Nat) (a0 : ByteArray) (a1 : ByteArray) (r : Int) (w : World) (h : merge_behind.f k a0 a1 = some r) :
  Calls Try.prog 34 #[.string a0, .string a1] w fun e w' => e = .returned (.int .i64 r) ∧ Drawn0 w w' := by
 have H : (merge_behind.l0 k a0 a1 0) = some r := h
 clear h
 have H' := a0_ H
 clear H
 go_enter Try.func34, Try.ntmps34
 go_wp2
 repeat (go_quiet (fail); try go_wp2)
 go_loopg [5] k (fun kq v5 w' => ∃ (x5_1 : Int), v5 = .int .i64 x5_1 ∧ Aside0 (merge_behind.l0 kq a0 a1 x5_1 = some r) ∧ Aside0 (kq ≤ k) ∧ Drawn0 w w')
 case atStart => exact ⟨(0), (by first | rfl | (simp; done) | (simp [*]; done)), H', ⟨Nat.le_refl _⟩, by repeat (first | exact Drawn0.refl _ | apply Drawn0.step)⟩
 case round =>
  clear H'
  obtain ⟨x5_1, rfl, HA, HK1, ⟨m1, rfl⟩⟩ := hrel
  cases gk with
  | zero => exact absurd HA.out (by simp [merge_behind.l0])
  | succ k1 =>
   have H := HA.out
   clear HA
   simp only [merge_behind.l0] at H
   by_cases c3 : x5_1 < (a0.size : Int)
   ·rw [if_pos c3] at H
    have c3b0 : decide (x5_1 < (a0.size : Int)) = true := decide_eq_true c3
    clear c3
    by_cases c4 : x5_1 < (a1.size : Int)
    ·rw [if_pos c4] at H
     have c4b0 : decide (x5_1 < (a1.size : Int)) = true := decide_eq_true c4
     clear c4
     obtain ⟨ji5, hji5⟩ : ∃ j_ : Int, (wrap64 ((wrap64 ((a0.size : Int) - 1)) - x5_1)) = j_ := ⟨_, rfl⟩
     replace H : (if 0 ≤ (ji5) then (if (ji5) < (a0.size : Int) then (if 0 ≤ (wrap64 ((wrap64 ((a1.size : Int) - 1)) - x5_1)) then (if (wrap64 ((wrap64 ((a1.size : Int) - 1)) - x5_1)) < (a1.size : Int) then (if (bt a0 (ji5)) = (bt a1 (wrap64 ((wrap64 ((a1.size : Int) - 1)) - x5_1))) then (merge_behind.l0 k1 a0 a1 (wrap64 (x5_1 + 1))) else (some x5_1)) else (none)) else (none)) else (none)) else (none)) = some r := by first | (rw [hji5] at H; exact H) | (simp only [hji5] at H ⊢; exact H)
     have hji5w : (IntKind.i64.wrap ((wrap64 ((a0.size : Int) - 1)) - x5_1)) = ji5 := (i64_w _).trans hji5
     by_cases c6 : 0 ≤ (ji5)
     ·rw [if_pos c6] at H
      have c6b0 : decide (0 ≤ (ji5)) = true := decide_eq_true c6
      clear c6
      by_cases c7 : (ji5) < (a0.size : Int)
      ·rw [if_pos c7] at H
       have c7b0 : decide ((ji5) < (a0.size : Int)) = true := decide_eq_true c7
       clear c7
       obtain ⟨ji9, hji9⟩ : ∃ j_ : Int, (wrap64 ((wrap64 ((a1.size : Int) - 1)) - x5_1)) = j_ := ⟨_, rfl⟩
       replace H : (if 0 ≤ (ji9) then (if (ji9) < (a1.size : Int) then (if (bt a0 (ji5)) = (bt a1 (ji9)) then (merge_behind.l0 k1 a0 a1 (wrap64 (x5_1 + 1))) else (some x5_1)) else (none)) else (none)) = some r := by first | (rw [hji9] at H; exact H) | (simp only [hji9] at H ⊢; exact H)
       have hji9w : (IntKind.i64.wrap ((wrap64 ((a1.size : Int) - 1)) - x5_1)) = ji9 := (i64_w _).trans hji9
       by_cases c10 : 0 ≤ (ji9)
       ·rw [if_pos c10] at H
        have c10b0 : decide (0 ≤ (ji9)) = true := decide_eq_true c10
        clear c10
        by_cases c11 : (ji9) < (a1.size : Int)
        ·rw [if_pos c11] at H
         have c11b0 : decide ((ji9) < (a1.size : Int)) = true := decide_eq_true c11
         clear c11
         by_cases c13 : (bt a0 (ji5)) = (bt a1 (ji9))
         ·rw [if_pos c13] at H
          have c13b0 : ((bt a0 (ji5)) == (bt a1 (ji9))) = true := beq_iff_eq.mpr c13
          have c13b1 : ((bt a0 (ji5)) != (bt a1 (ji9))) = false := bne_eq_false_iff_eq.mpr c13
          clear c13
          have H' := a0_ H
          clear H
          have p8 : 0 ≤ ((ji5) : Int) := od_ (by first | (with_reducible assumption) | assumption)
          have q8 : (ji5) < (a0.size : Int) := od_ (by first | (with_reducible assumption) | assumption)
          have hx8 := bt_at a0 (ji5)
          replace p8 := eq_true p8
          replace q8 := eq_true q8
          have p12 : 0 ≤ ((ji9) : Int) := od_ (by first | (with_reducible assumption) | assumption)
          have q12 : (ji9) < (a1.size : Int) := od_ (by first | (with_reducible assumption) | assumption)
          have hx12 := bt_at a1 (ji9)
          replace p12 := eq_true p12
          replace q12 := eq_true q12
          go_wp2
          repeat (go_quiet (fail); try go_wp2)
          go_roundg k1
          case measure => have := HK1.out; omega
          case rel => exact ⟨(wrap64 (x5_1 + 1)), (by first | rfl | (simp; done) | (simp [*]; done)), H', ⟨by have := HK1.out; omega⟩, by repeat (first | exact Drawn0.refl _ | apply Drawn0.step)⟩
         ·rw [if_neg c13] at H
          have c13b0 : ((bt a0 (ji5)) == (bt a1 (ji9))) = false := beq_eq_false_iff_ne.mpr c13
          have c13b1 : ((bt a0 (ji5)) != (bt a1 (ji9))) = true := bne_iff_ne.mpr c13
          obtain rfl := Option.some.inj H
          have p8 : 0 ≤ ((ji5) : Int) := od_ (by first | (with_reducible assumption) | assumption)
          have q8 : (ji5) < (a0.size : Int) := od_ (by first | (with_reducible assumption) | assumption)
          have hx8 := bt_at a0 (ji5)
          replace p8 := eq_true p8
          replace q8 := eq_true q8
          have p12 : 0 ≤ ((ji9) : Int) := od_ (by first | (with_reducible assumption) | assumption)
          have q12 : (ji9) < (a1.size : Int) := od_ (by first | (with_reducible assumption) | assumption)
          have hx12 := bt_at a1 (ji9)
          replace p12 := eq_true p12
          replace q12 := eq_true q12
          go_wp2
          repeat (go_quiet (fail); try go_wp2)
          go_ret
          exact ⟨by first | rfl | (simp; done) | (simp only [← hji5, ← hji9] <;> (first | rfl | simp)) | (simp [*]; done), by repeat (first | exact Drawn0.refl _ | apply Drawn0.step)⟩
        ·rw [if_neg c11] at H
         exact absurd H (by simp)
       ·rw [if_neg c10] at H
        exact absurd H (by simp)
      ·rw [if_neg c7] at H
       exact absurd H (by simp)
     ·rw [if_neg c6] at H
      exact absurd H (by simp)
    ·rw [if_neg c4] at H
     have c4b0 : decide (x5_1 < (a1.size : Int)) = false := decide_eq_false c4
     clear c4
     obtain rfl := Option.some.inj H
     go_wp2
     repeat (go_quiet (fail); try go_wp2)
     go_ret
     exact ⟨by first | rfl | (simp; done) | (simp [*]; done), by repeat (first | exact Drawn0.refl _ | apply Drawn0.step)⟩
   ·rw [if_neg c3] at H
    have c3b0 : decide (x5_1 < (a0.size : Int)) = false := decide_eq_false c3
    clear c3
    obtain rfl := Option.some.inj H
    go_wp2
    repeat (go_quiet (fail); try go_wp2)
    go_ret
    exact ⟨by first | rfl | (simp; done) | (simp [*]; done), by repeat (first | exact Drawn0.refl _ | apply Drawn0.step)⟩
end Go.Proofs.Ytclcnglamlegiaa.PMD
