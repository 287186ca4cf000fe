-- Written by ownprint.py, a program of this session (out of the kit's print, with contracts of the session's own).
import Derived.Test.YtclcnglamlegiaaWMore
import Derived.Test.YtclcnglamlegiaaPMDx0
import Derived.Test.YtclcnglamlegiaaPMDx18
import Derived.Test.YtclcnglamlegiaaPMDx20
namespace Go.Proofs.Ytclcnglamlegiaa.PMD
open Go.RowKit Go.Proofs.YtclcnglamlegiaaW.PrintWords Go.Proofs.YtclcnglamlegiaaW.PrintLast Go.Proofs.YtclcnglamlegiaaW.PrintMore
attribute [local go_sem] max2_int min2_int max_two min_two max_three min_three max_four min_four   -- for this text's walks alone
set_option linter.unusedVariables false
set_option linter.unusedSimpArgs false
/-! ### orielref02_Apply: function 25 -/
mutual
def orielref02_Apply.l0 : Nat → ByteArray → List (S58) → ByteArray → Int → Option (ByteArray × Int)
 | 0, _, _, _, _ => none
 | k + 1, x0, x1, x7, x8 => if x8 ≤ (x0.size : Int) then (orielref02_Apply.l1 k x0 x1 x7 x8 0) else (some (x7, 0))
def orielref02_Apply.l1 : Nat → ByteArray → List (S58) → ByteArray → Int → Int → Option (ByteArray × Int)
 | 0, _, _, _, _, _ => none
 | k + 1, x0, x1, x7, x8, x9 => if x9 < (x1.length : Int) then (if 0 ≤ x9 then (if ((rd_T58 x1 x9).f0) = x8 then (if x7.size + ((rd_T58 x1 x9).f2).size ≤ 9223372036854775807 then (orielref02_Apply.l1 k x0 x1 (x7 ++ ((rd_T58 x1 x9).f2)) x8 (wrap64 (x9 + 1))) else (none)) else (orielref02_Apply.l1 k x0 x1 x7 x8 (wrap64 (x9 + 1)))) else (none)) else (if x8 < (x0.size : Int) then ((orielref02_taken.f k x8 x1).bind fun t210 => (if t210 < 0 then (if 0 ≤ x8 then (if x8 ≤ (wrap64 (x8 + 1)) then (if (wrap64 (x8 + 1)) ≤ (x0.size : Int) then (if x7.size + (x0.extract (x8 : Int).toNat ((wrap64 (x8 + 1)) : Int).toNat).size ≤ 9223372036854775807 then (orielref02_Apply.l0 k x0 x1 (x7 ++ (x0.extract (x8 : Int).toNat ((wrap64 (x8 + 1)) : Int).toNat)) (wrap64 (x8 + 1))) else (none)) else (none)) else (none)) else (none)) else (orielref02_Apply.l0 k x0 x1 x7 (wrap64 (x8 + 1))))) else (orielref02_Apply.l0 k x0 x1 x7 (wrap64 (x8 + 1))))
end
def orielref02_Apply.f (k : Nat) (a0 : ByteArray) (l1 : List (S58)) : Option (ByteArray × Int) := (orielref02_Check.f k (a0.size : Int) l1).bind fun t207 => (if t207 = 0 then (orielref02_Apply.l0 k a0 l1 (⟨#[]⟩ : ByteArray) 0) else (some ((⟨#[]⟩ : ByteArray), t207)))
set_option maxHeartbeats 8000000 in
set_option maxRecDepth 100000 in
theorem orielref02_Apply.calls (k : Nat) (a0 : ByteArray) (A1 : Option Addr) (c1 : Nat) (l1 : List (S58)) (r1 : ByteArray) (r2 : Int) (w : World) (hr1 : Kd.C k58 w A1 l1.length l1) (hc1 : l1.length ≤ c1) (h : orielref02_Apply.f k a0 l1 = some (r1, r2)) :
  Calls Try.prog 25 #[.string a0, .slice A1 l1.length c1] w fun e w' => e = .returned (.tuple #[.string r1, .int .i64 r2]) ∧ Drawn0 w w' := by
 have HR1 := a0_ hr1
 have HC1 := a0_ hc1
 clear hr1 hc1
 have H : ((orielref02_Check.f k (a0.size : Int) l1).bind fun t207 => (if t207 = 0 then (orielref02_Apply.l0 k a0 l1 (⟨#[]⟩ : ByteArray) 0) else (some ((⟨#[]⟩ : ByteArray), t207)))) = some (r1, r2) := h
 clear h
 replace H := ob_ H
 obtain ⟨t207, A30, H⟩ := H
 replace H : (if t207 = 0 then (orielref02_Apply.l0 k a0 l1 (⟨#[]⟩ : ByteArray) 0) else (some ((⟨#[]⟩ : ByteArray), t207))) = some (r1, r2) := H
 have A3 := a0_ A30
 clear A30
 by_cases c4 : t207 = 0
 ·rw [if_pos c4] at H
  have c4b0 : (t207 == 0) = true := beq_iff_eq.mpr c4
  have c4b1 : (t207 != 0) = false := bne_eq_false_iff_eq.mpr c4
  clear c4
  have H' := a0_ H
  clear H
  go_enter Try.func25, Try.ntmps25
  go_wp2_with (first | ((with_reducible refine gate_callee (f := 36) rfl ?_); refine goesL_ (some 13) rfl rfl Try.func36 (by kernel_rfl) rfl #[.int .i64 (a0.size : Int), .slice A1 l1.length c1] rfl (by (try simp only [List.map_toArray, List.map_cons, List.map_nil]); first | done | rfl | (simp only [List.length_drop, List.length_take]; rfl)) ?_; (with_reducible refine (orielref02_Check.calls k (a0.size : Int) _ _ l1 t207 _ ?side1 ?side2 A3.out).mono ?_); (case side1 => repeat (first | exact HR1.out | (with_reducible refine Kd.C_alloc ?_ _) | (with_reducible refine Kd.C_drewN ?_ _) | (with_reducible refine Kd.C_drew ?_))); (case side2 => exact HC1.out); rintro e w' ⟨rfl, ⟨nd, rfl⟩⟩; refine ⟨_, rfl, ?_⟩))
  go_loopg [7, 8] k (fun kq v7 v8 w' => ∃ (x7_1 : ByteArray) (x8_1 : Int), v7 = .string x7_1 ∧ v8 = .int .i64 x8_1 ∧ Aside0 (orielref02_Apply.l0 kq a0 l1 x7_1 x8_1 = some (r1, r2)) ∧ Aside0 (kq ≤ k) ∧ Drawn0 w w')
  case atStart => exact ⟨((⟨#[]⟩ : ByteArray)), (0), (by first | rfl | (simp; done) | (simp [*]; done)), (by first | rfl | (simp; done) | (simp [*]; done)), H', ⟨Nat.le_refl _⟩, by repeat (first | exact Drawn0.refl _ | apply Drawn0.step)⟩
  case round =>
   clear H'
   obtain ⟨x7_1, x8_1, rfl, rfl, HA, HK1, ⟨m1, rfl⟩⟩ := hrel
   cases gk with
   | zero => exact absurd HA.out (by simp [orielref02_Apply.l0])
   | succ k1 =>
    have H := HA.out
    clear HA
    simp only [orielref02_Apply.l0] at H
    by_cases c5 : x8_1 ≤ (a0.size : Int)
    ·rw [if_pos c5] at H
     have c5b0 : decide (x8_1 ≤ (a0.size : Int)) = true := decide_eq_true c5
     clear c5
     have H' := a0_ H
     clear H
     go_wp2
     go_loopg [7, 9] k1 (fun kq v7 v9 w' => ∃ (x7_2 : ByteArray) (x9_2 : Int), v7 = .string x7_2 ∧ v9 = .int .i64 x9_2 ∧ Aside0 (orielref02_Apply.l1 kq a0 l1 x7_2 x8_1 x9_2 = some (r1, r2)) ∧ Aside0 (kq ≤ k1) ∧ Drawn0 w w')
     case atStart => exact ⟨(x7_1), (0), (by first | rfl | (simp; done) | (simp [*]; done)), (by first | rfl | (simp; done) | (simp [*]; done)), H', ⟨Nat.le_refl _⟩, by repeat (first | exact Drawn0.refl _ | apply Drawn0.step)⟩
     case round =>
      clear H'
      obtain ⟨x7_2, x9_2, rfl, rfl, HA, HK2, ⟨m2, rfl⟩⟩ := hrel
      cases gk with
      | zero => exact absurd HA.out (by simp [orielref02_Apply.l1])
      | succ k2 =>
       have H := HA.out
       clear HA
       simp only [orielref02_Apply.l1] at H
       by_cases c6 : x9_2 < (l1.length : Int)
       ·rw [if_pos c6] at H
        have c6b0 : decide (x9_2 < (l1.length : Int)) = true := decide_eq_true c6
        clear c6
        by_cases c7 : 0 ≤ x9_2
        ·rw [if_pos c7] at H
         have c7b0 : decide (0 ≤ x9_2) = true := decide_eq_true c7
         clear c7
         by_cases c8 : ((rd_T58 l1 x9_2).f0) = x8_1
         ·rw [if_pos c8] at H
          have c8b0 : (((rd_T58 l1 x9_2).f0) == x8_1) = true := beq_iff_eq.mpr c8
          have c8b1 : (((rd_T58 l1 x9_2).f0) != x8_1) = false := bne_eq_false_iff_eq.mpr c8
          clear c8
          by_cases c9 : x7_2.size + ((rd_T58 l1 x9_2).f2).size ≤ 9223372036854775807
          ·rw [if_pos c9] at H
           have c9b0 := eq_true c9
           have c9b1 : decide (x7_2.size + ((rd_T58 l1 x9_2).f2).size ≤ 9223372036854775807) = true := decide_eq_true c9
           try have c9b2 : (9223372036854775807 < x7_2.size + ((rd_T58 l1 x9_2).f2).size) = False := eq_false (Nat.not_lt.2 c9)
           have H' := a0_ H
           clear H
           have p208 : 0 ≤ (x9_2 : Int) := od_ (by first | (with_reducible assumption) | assumption)
           have q208 : x9_2 < (l1.length : Int) := od_ (by first | (with_reducible assumption) | assumption)
           obtain ⟨ad208, e208, hx208_0, hx208_1, hx208_2⟩ := at_T58 HR1.out x9_2 p208 q208
           cases e208
           replace p208 := eq_true p208
           replace q208 := eq_true q208
           have p209 : 0 ≤ (x9_2 : Int) := od_ (by first | (with_reducible assumption) | assumption)
           have q209 : x9_2 < (l1.length : Int) := od_ (by first | (with_reducible assumption) | assumption)
           obtain ⟨ad209, e209, hx209_0, hx209_1, hx209_2⟩ := at_T58 HR1.out x9_2 p209 q209
           obtain rfl : ad208 = ad209 := (by injection e209)
           replace p209 := eq_true p209
           replace q209 := eq_true q209
           go_wp2
           go_roundg k2
           case measure => have := HK1.out; have := HK2.out; omega
           case rel => exact ⟨(x7_2 ++ ((rd_T58 l1 x9_2).f2)), (wrap64 (x9_2 + 1)), (by first | rfl | (simp; done) | (simp [*]; done)), (by first | rfl | (simp; done) | (simp [*]; done)), H', ⟨by have := HK1.out; have := HK2.out; omega⟩, by repeat (first | exact Drawn0.refl _ | apply Drawn0.step)⟩
          ·rw [if_neg c9] at H
           exact absurd H (by simp)
         ·rw [if_neg c8] at H
          have c8b0 : (((rd_T58 l1 x9_2).f0) == x8_1) = false := beq_eq_false_iff_ne.mpr c8
          have c8b1 : (((rd_T58 l1 x9_2).f0) != x8_1) = true := bne_iff_ne.mpr c8
          have H' := a0_ H
          clear H
          have p208 : 0 ≤ (x9_2 : Int) := od_ (by first | (with_reducible assumption) | assumption)
          have q208 : x9_2 < (l1.length : Int) := od_ (by first | (with_reducible assumption) | assumption)
          obtain ⟨ad208, e208, hx208_0, hx208_1, hx208_2⟩ := at_T58 HR1.out x9_2 p208 q208
          cases e208
          replace p208 := eq_true p208
          replace q208 := eq_true q208
          go_wp2
          go_roundg k2
          case measure => have := HK1.out; have := HK2.out; omega
          case rel => exact ⟨(x7_2), (wrap64 (x9_2 + 1)), (by first | rfl | (simp; done) | (simp [*]; done)), (by first | rfl | (simp; done) | (simp [*]; done)), H', ⟨by have := HK1.out; have := HK2.out; omega⟩, by repeat (first | exact Drawn0.refl _ | apply Drawn0.step)⟩
        ·rw [if_neg c7] at H
         exact absurd H (by simp)
       ·rw [if_neg c6] at H
        have c6b0 : decide (x9_2 < (l1.length : Int)) = false := decide_eq_false c6
        clear c6
        by_cases c10 : x8_1 < (a0.size : Int)
        ·rw [if_pos c10] at H
         have c10b0 : decide (x8_1 < (a0.size : Int)) = true := decide_eq_true c10
         clear c10
         replace H := ob_ H
         obtain ⟨t210, A110, H⟩ := H
         replace H : (if t210 < 0 then (if 0 ≤ x8_1 then (if x8_1 ≤ (wrap64 (x8_1 + 1)) then (if (wrap64 (x8_1 + 1)) ≤ (a0.size : Int) then (if x7_2.size + (a0.extract (x8_1 : Int).toNat ((wrap64 (x8_1 + 1)) : Int).toNat).size ≤ 9223372036854775807 then (orielref02_Apply.l0 k2 a0 l1 (x7_2 ++ (a0.extract (x8_1 : Int).toNat ((wrap64 (x8_1 + 1)) : Int).toNat)) (wrap64 (x8_1 + 1))) else (none)) else (none)) else (none)) else (none)) else (orielref02_Apply.l0 k2 a0 l1 x7_2 (wrap64 (x8_1 + 1)))) = some (r1, r2) := H
         have A11 := a0_ A110
         clear A110
         by_cases c12 : t210 < 0
         ·rw [if_pos c12] at H
          have c12b0 : decide (t210 < 0) = true := decide_eq_true c12
          clear c12
          by_cases c13 : 0 ≤ x8_1
          ·rw [if_pos c13] at H
           have c13b0 := eq_true c13
           have c13b1 : decide (0 ≤ x8_1) = true := decide_eq_true c13
           clear c13
           by_cases c14 : x8_1 ≤ (wrap64 (x8_1 + 1))
           ·rw [if_pos c14] at H
            have c14b0 := eq_true c14
            have c14b1 : decide (x8_1 ≤ (wrap64 (x8_1 + 1))) = true := decide_eq_true c14
            by_cases c15 : (wrap64 (x8_1 + 1)) ≤ (a0.size : Int)
            ·rw [if_pos c15] at H
             have c15b0 := eq_true c15
             have c15b1 : decide ((wrap64 (x8_1 + 1)) ≤ (a0.size : Int)) = true := decide_eq_true c15
             by_cases c16 : x7_2.size + (a0.extract (x8_1 : Int).toNat ((wrap64 (x8_1 + 1)) : Int).toNat).size ≤ 9223372036854775807
             ·rw [if_pos c16] at H
              have c16b0 := eq_true c16
              have c16b1 : decide (x7_2.size + (a0.extract (x8_1 : Int).toNat ((wrap64 (x8_1 + 1)) : Int).toNat).size ≤ 9223372036854775807) = true := decide_eq_true c16
              try have c16b2 : (9223372036854775807 < x7_2.size + (a0.extract (x8_1 : Int).toNat ((wrap64 (x8_1 + 1)) : Int).toNat).size) = False := eq_false (Nat.not_lt.2 c16)
              have H' := a0_ H
              clear H
              go_wp2_with (first | (go_at_call 37; (with_reducible refine (orielref02_taken.calls k2 x8_1 _ _ l1 t210 _ ?side1 ?side2 A11.out).mono ?_); (case side1 => repeat (first | exact HR1.out | (with_reducible refine Kd.C_alloc ?_ _) | (with_reducible refine Kd.C_drewN ?_ _) | (with_reducible refine Kd.C_drew ?_))); (case side2 => exact HC1.out); rintro e w' ⟨rfl, ⟨nd, rfl⟩⟩))
              go_roundg k2
              case measure => have := HK1.out; have := HK2.out; omega
              case rel => exact ⟨(x7_2 ++ (a0.extract (x8_1 : Int).toNat ((wrap64 (x8_1 + 1)) : Int).toNat)), (wrap64 (x8_1 + 1)), (by first | rfl | (simp; done) | (simp [*]; done)), (by first | rfl | (simp; done) | (simp [*]; done)), H', ⟨by have := HK1.out; have := HK2.out; omega⟩, by repeat (first | exact Drawn0.refl _ | apply Drawn0.step)⟩
             ·rw [if_neg c16] at H
              exact absurd H (by simp)
            ·rw [if_neg c15] at H
             exact absurd H (by simp)
           ·rw [if_neg c14] at H
            exact absurd H (by simp)
          ·rw [if_neg c13] at H
           exact absurd H (by simp)
         ·rw [if_neg c12] at H
          have c12b0 : decide (t210 < 0) = false := decide_eq_false c12
          clear c12
          have H' := a0_ H
          clear H
          go_wp2_with (first | (go_at_call 37; (with_reducible refine (orielref02_taken.calls k2 x8_1 _ _ l1 t210 _ ?side1 ?side2 A11.out).mono ?_); (case side1 => repeat (first | exact HR1.out | (with_reducible refine Kd.C_alloc ?_ _) | (with_reducible refine Kd.C_drewN ?_ _) | (with_reducible refine Kd.C_drew ?_))); (case side2 => exact HC1.out); rintro e w' ⟨rfl, ⟨nd, rfl⟩⟩))
          go_roundg k2
          case measure => have := HK1.out; have := HK2.out; omega
          case rel => exact ⟨(x7_2), (wrap64 (x8_1 + 1)), (by first | rfl | (simp; done) | (simp [*]; done)), (by first | rfl | (simp; done) | (simp [*]; done)), H', ⟨by have := HK1.out; have := HK2.out; omega⟩, by repeat (first | exact Drawn0.refl _ | apply Drawn0.step)⟩
        ·rw [if_neg c10] at H
         have c10b0 : decide (x8_1 < (a0.size : Int)) = false := decide_eq_false c10
         clear c10
         have H' := a0_ H
         clear H
         go_wp2
         go_roundg k2
         case measure => have := HK1.out; have := HK2.out; omega
         case rel => exact ⟨(x7_2), (wrap64 (x8_1 + 1)), (by first | rfl | (simp; done) | (simp [*]; done)), (by first | rfl | (simp; done) | (simp [*]; done)), H', ⟨by have := HK1.out; have := HK2.out; omega⟩, by repeat (first | exact Drawn0.refl _ | apply Drawn0.step)⟩
    ·rw [if_neg c5] at H
     have c5b0 : decide (x8_1 ≤ (a0.size : Int)) = false := decide_eq_false c5
     clear c5
     simp only [Option.some.injEq, Prod.mk.injEq] at H
     obtain ⟨rfl, rfl⟩ := H
     go_wp2
     go_ret2
     exact ⟨by first | rfl | (simp; done) | (simp [*]; done), by repeat (first | exact Drawn0.refl _ | apply Drawn0.step)⟩
 ·rw [if_neg c4] at H
  have c4b0 : (t207 == 0) = false := beq_eq_false_iff_ne.mpr c4
  have c4b1 : (t207 != 0) = true := bne_iff_ne.mpr c4
  simp only [Option.some.injEq, Prod.mk.injEq] at H
  obtain ⟨rfl, rfl⟩ := H
  go_enter Try.func25, Try.ntmps25
  go_wp2_with (first | ((with_reducible refine gate_callee (f := 36) rfl ?_); refine goesL_ (some 13) rfl rfl Try.func36 (by kernel_rfl) rfl #[.int .i64 (a0.size : Int), .slice A1 l1.length c1] rfl (by (try simp only [List.map_toArray, List.map_cons, List.map_nil]); first | done | rfl | (simp only [List.length_drop, List.length_take]; rfl)) ?_; (with_reducible refine (orielref02_Check.calls k (a0.size : Int) _ _ l1 t207 _ ?side1 ?side2 A3.out).mono ?_); (case side1 => repeat (first | exact HR1.out | (with_reducible refine Kd.C_alloc ?_ _) | (with_reducible refine Kd.C_drewN ?_ _) | (with_reducible refine Kd.C_drew ?_))); (case side2 => exact HC1.out); rintro e w' ⟨rfl, ⟨nd, rfl⟩⟩; refine ⟨_, rfl, ?_⟩))
  go_ret2
  exact ⟨by first | rfl | (simp; done) | (simp [*]; done), by repeat (first | exact Drawn0.refl _ | apply Drawn0.step)⟩
end Go.Proofs.Ytclcnglamlegiaa.PMD
