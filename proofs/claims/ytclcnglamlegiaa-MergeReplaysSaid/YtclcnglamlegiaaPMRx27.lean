-- Written by ownprint.py, a program of this session (out of the kit's print, with contracts of the session's own).
import Derived.Test.YtclcnglamlegiaaWMore
import Derived.Test.YtclcnglamlegiaaPMRx0
namespace Go.Proofs.Ytclcnglamlegiaa.PMR
open Go.RowKit Go.Proofs.YtclcnglamlegiaaW.PrintWords Go.Proofs.YtclcnglamlegiaaW.PrintLast Go.Proofs.YtclcnglamlegiaaW.PrintMore
attribute [local go_sem] max2_int min2_int max_two min_two max_three min_three max_four min_four   -- for this text's walks alone
set_option linter.unusedVariables false
set_option linter.unusedSimpArgs false
/-! ### orielref35_Net: function 18 -/
mutual
def orielref35_Net.l0 : Nat → List (S36) → List (S36) → List (S34) → Int → Option ((List (S34)))
 | 0, _, _, _, _ => none
 | k + 1, x0, x1, x5, x6 => if x6 < (x0.length : Int) then (if 0 ≤ x6 then (if x6 < (x1.length : Int) then (if ((rd_T36 x0 x6).f1).toList = ((rd_T36 x1 x6).f1).toList then (orielref35_Net.l0 k x0 x1 x5 (wrap64 (x6 + 1))) else (orielref35_Net.l1 k x0 x1 x5 x6 ((rd_T36 x0 x6).f1) ((rd_T36 x1 x6).f1) 0)) else (none)) else (none)) else (some x5)
def orielref35_Net.j2 : Nat → List (S36) → List (S36) → List (S34) → Int → ByteArray → ByteArray → Int → Option ((List (S34)))
 | 0, _, _, _, _, _, _, _ => none
 | k + 1, x0, x1, x5, x6, x7, x8, x9 => orielref35_Net.l2 k x0 x1 x5 x6 x7 x8 x9 0
def orielref35_Net.l2 : Nat → List (S36) → List (S36) → List (S34) → Int → ByteArray → ByteArray → Int → Int → Option ((List (S34)))
 | 0, _, _, _, _, _, _, _, _ => none
 | k + 1, x0, x1, x5, x6, x7, x8, x9, x10 => if x10 < (wrap64 ((x7.size : Int) - x9)) then (if x10 < (wrap64 ((x8.size : Int) - x9)) then (if 0 ≤ (wrap64 ((wrap64 ((x7.size : Int) - x10)) - 1)) then (if (wrap64 ((wrap64 ((x7.size : Int) - x10)) - 1)) ≤ (x7.size : Int) then (if 0 ≤ (wrap64 ((wrap64 ((x8.size : Int) - x10)) - 1)) then (if (wrap64 ((wrap64 ((x8.size : Int) - x10)) - 1)) ≤ (x8.size : Int) then (if (x7.extract ((wrap64 ((wrap64 ((x7.size : Int) - x10)) - 1)) : Int).toNat x7.size).toList = (x8.extract ((wrap64 ((wrap64 ((x8.size : Int) - x10)) - 1)) : Int).toNat x8.size).toList then (orielref35_Net.l2 k x0 x1 x5 x6 x7 x8 x9 (wrap64 (x10 + 1))) else (if 0 ≤ x9 then (if x9 ≤ (wrap64 ((x8.size : Int) - x10)) then (if (wrap64 ((x8.size : Int) - x10)) ≤ (x8.size : Int) then (if x5.length < 3518437208883 then (orielref35_Net.l0 k x0 x1 (x5 ++ [(⟨x6, x9, wrap64 ((x7.size : Int) - x10), x8.extract (x9 : Int).toNat ((wrap64 ((x8.size : Int) - x10)) : Int).toNat⟩ : S34)]) (wrap64 (x6 + 1))) else (none)) else (none)) else (none)) else (none))) else (none)) else (none)) else (none)) else (none)) else (if 0 ≤ x9 then (if x9 ≤ (wrap64 ((x8.size : Int) - x10)) then (if (wrap64 ((x8.size : Int) - x10)) ≤ (x8.size : Int) then (if x5.length < 3518437208883 then (orielref35_Net.l0 k x0 x1 (x5 ++ [(⟨x6, x9, wrap64 ((x7.size : Int) - x10), x8.extract (x9 : Int).toNat ((wrap64 ((x8.size : Int) - x10)) : Int).toNat⟩ : S34)]) (wrap64 (x6 + 1))) else (none)) else (none)) else (none)) else (none))) else (if 0 ≤ x9 then (if x9 ≤ (wrap64 ((x8.size : Int) - x10)) then (if (wrap64 ((x8.size : Int) - x10)) ≤ (x8.size : Int) then (if x5.length < 3518437208883 then (orielref35_Net.l0 k x0 x1 (x5 ++ [(⟨x6, x9, wrap64 ((x7.size : Int) - x10), x8.extract (x9 : Int).toNat ((wrap64 ((x8.size : Int) - x10)) : Int).toNat⟩ : S34)]) (wrap64 (x6 + 1))) else (none)) else (none)) else (none)) else (none))
def orielref35_Net.l1 : Nat → List (S36) → List (S36) → List (S34) → Int → ByteArray → ByteArray → Int → Option ((List (S34)))
 | 0, _, _, _, _, _, _, _ => none
 | k + 1, x0, x1, x5, x6, x7, x8, x9 => if x9 < (x7.size : Int) then (if x9 < (x8.size : Int) then (if 0 ≤ (wrap64 (x9 + 1)) then (if (wrap64 (x9 + 1)) ≤ (x7.size : Int) then (if (wrap64 (x9 + 1)) ≤ (x8.size : Int) then (if (x7.extract 0 ((wrap64 (x9 + 1)) : Int).toNat).toList = (x8.extract 0 ((wrap64 (x9 + 1)) : Int).toNat).toList then (orielref35_Net.l1 k x0 x1 x5 x6 x7 x8 (wrap64 (x9 + 1))) else (orielref35_Net.j2 k x0 x1 x5 x6 x7 x8 x9)) else (none)) else (none)) else (none)) else (orielref35_Net.j2 k x0 x1 x5 x6 x7 x8 x9)) else (orielref35_Net.j2 k x0 x1 x5 x6 x7 x8 x9)
end
def orielref35_Net.f (k : Nat) (l0 : List (S36)) (l1 : List (S36)) : Option ((List (S34))) := orielref35_Net.l0 k l0 l1 ([] : List (S34)) 0
set_option maxHeartbeats 8000000 in
set_option maxRecDepth 100000 in
theorem orielref35_Net.calls (k : Nat) (A0 : Option Addr) (c0 : Nat) (l0 : List (S36)) (A1 : Option Addr) (c1 : Nat) (l1 : List (S36)) (r : List (S34)) (w : World) (hr0 : Kd.C k36 w A0 l0.length l0) (hc0 : l0.length ≤ c0) (hr1 : Kd.C k36 w A1 l1.length l1) (hc1 : l1.length ≤ c1) (h : orielref35_Net.f k l0 l1 = some r) :
  Calls Try.prog 18 #[.slice A0 l0.length c0, .slice A1 l1.length c1] w fun e w' => ∃ v0_ : Value, e = .returned (v0_) ∧ Kd.R k34 34 w' w.heap.size (fun _ => True) v0_ r ∧ Below w.heap.size w w' := by
 have hu34 := Try.underlying34
 have HR0 := a0_ hr0
 have HC0 := a0_ hc0
 clear hr0 hc0
 have HR1 := a0_ hr1
 have HC1 := a0_ hc1
 clear hr1 hc1
 have HB := a0_ (Below.refl w.heap.size w)
 have H : (orielref35_Net.l0 k l0 l1 ([] : List (S34)) 0) = some r := h
 clear h
 have H' := a0_ H
 clear H
 go_enter Try.func18, Try.ntmps18
 go_wp2
 repeat (go_quiet (fail); try go_wp2)
 go_loopg [5, 6] k (fun kq v5 v6 w' => ∃ (x5_1 : List (S34)) (x6_1 : Int), v6 = .int .i64 x6_1 ∧ Aside0 (orielref35_Net.l0 kq l0 l1 x5_1 x6_1 = some r) ∧ Aside0 (kq ≤ k) ∧ Aside0 (Kd.R k34 34 w' w.heap.size (fun _ => True) v5 x5_1) ∧ Aside0 (Below w.heap.size w w'))
 case atStart => exact ⟨(([] : List (S34))), (0), (by first | rfl | (simp; done) | (simp [*]; done)), H', ⟨Nat.le_refl _⟩, ⟨by first | exact Kd.R_nil _ _ _ _ _ | exact Kd.N_nil _ _ _ _ _ | exact Kd.V_nil _ _ _ _ _ | exact Kd.Q_nil _ _ _ _ _ | exact Kd.S_nil _ _ _ _ _⟩, ⟨by exact HB.out⟩⟩
 case round =>
  clear H'
  obtain ⟨x5_1, x6_1, rfl, HA, HK1, HO_5, HB⟩ := hrel
  cases gk with
  | zero => exact absurd HA.out (by simp [orielref35_Net.l0])
  | succ k1 =>
   have H := HA.out
   clear HA
   simp only [orielref35_Net.l0] at H
   by_cases c3 : x6_1 < (l0.length : Int)
   ·rw [if_pos c3] at H
    have c3b0 := decide_eq_true c3
    clear c3
    by_cases c4 : 0 ≤ x6_1
    ·rw [if_pos c4] at H
     have c4b0 := decide_eq_true c4
     clear c4
     by_cases c5 : x6_1 < (l1.length : Int)
     ·rw [if_pos c5] at H
      have c5b0 := decide_eq_true c5
      clear c5
      by_cases c6 : ((rd_T36 l0 x6_1).f1).toList = ((rd_T36 l1 x6_1).f1).toList
      ·rw [if_pos c6] at H
       have c6b0 : (((rd_T36 l0 x6_1).f1).toList == ((rd_T36 l1 x6_1).f1).toList) = true := beq_iff_eq.mpr c6
       have c6b1 : (((rd_T36 l0 x6_1).f1).toList != ((rd_T36 l1 x6_1).f1).toList) = false := bne_eq_false_iff_eq.mpr c6
       clear c6
       have H' := a0_ H
       clear H
       have p256 : 0 ≤ (x6_1 : Int) := od_ (by assumption)
       have q256 : x6_1 < (l0.length : Int) := od_ (by assumption)
       obtain ⟨ad256, e256, hx256_0, hx256_1⟩ := at_T36 HR0.out x6_1 p256 q256
       cases e256
       replace hx256_0 := (HB.out.cell (bl_ w _ hx256_0)).trans hx256_0
       replace hx256_1 := (HB.out.cell (bl_ w _ hx256_1)).trans hx256_1
       replace p256 := eq_true p256
       replace q256 := eq_true q256
       have p257 : 0 ≤ (x6_1 : Int) := od_ (by assumption)
       have q257 : x6_1 < (l1.length : Int) := od_ (by assumption)
       obtain ⟨ad257, e257, hx257_0, hx257_1⟩ := at_T36 HR1.out x6_1 p257 q257
       cases e257
       replace hx257_0 := (HB.out.cell (bl_ w _ hx257_0)).trans hx257_0
       replace hx257_1 := (HB.out.cell (bl_ w _ hx257_1)).trans hx257_1
       replace p257 := eq_true p257
       replace q257 := eq_true q257
       go_wp2
       repeat (go_quiet (fail); try go_wp2)
       go_roundg k1
       case measure => have := HK1.out; omega
       case rel => exact ⟨(x5_1), (wrap64 (x6_1 + 1)), (by first | rfl | (simp; done) | (simp [*]; done)), H', ⟨by have := HK1.out; omega⟩, ⟨by (with_reducible repeat (first | apply Kd.R_alloc | apply Kd.R_drewN | apply Kd.R_drew)); exact HO_5.out⟩, ⟨by repeat (first | (with_reducible first | exact HB.out | apply bA_ | apply bN_ | apply bD_) | exact HB.out)⟩⟩
      ·rw [if_neg c6] at H
       have c6b0 : (((rd_T36 l0 x6_1).f1).toList == ((rd_T36 l1 x6_1).f1).toList) = false := beq_eq_false_iff_ne.mpr c6
       have c6b1 : (((rd_T36 l0 x6_1).f1).toList != ((rd_T36 l1 x6_1).f1).toList) = true := bne_iff_ne.mpr c6
       have HC7 := a0_ H
       clear H
       have p256 : 0 ≤ (x6_1 : Int) := od_ (by assumption)
       have q256 : x6_1 < (l0.length : Int) := od_ (by assumption)
       obtain ⟨ad256, e256, hx256_0, hx256_1⟩ := at_T36 HR0.out x6_1 p256 q256
       cases e256
       replace hx256_0 := (HB.out.cell (bl_ w _ hx256_0)).trans hx256_0
       replace hx256_1 := (HB.out.cell (bl_ w _ hx256_1)).trans hx256_1
       replace p256 := eq_true p256
       replace q256 := eq_true q256
       have p257 : 0 ≤ (x6_1 : Int) := od_ (by assumption)
       have q257 : x6_1 < (l1.length : Int) := od_ (by assumption)
       obtain ⟨ad257, e257, hx257_0, hx257_1⟩ := at_T36 HR1.out x6_1 p257 q257
       cases e257
       replace hx257_0 := (HB.out.cell (bl_ w _ hx257_0)).trans hx257_0
       replace hx257_1 := (HB.out.cell (bl_ w _ hx257_1)).trans hx257_1
       replace p257 := eq_true p257
       replace q257 := eq_true q257
       go_upto_block 2 with (fail)
       repeat (go_quiet (fail); go_upto_block 2 with (fail))
       go_cut [9] (fun v9 wc => ∃ (kq : Nat) (x9_6 : Int), v9 = .int .i64 x9_6 ∧ Aside0 (orielref35_Net.j2 kq l0 l1 x5_1 x6_1 ((rd_T36 l0 x6_1).f1) ((rd_T36 l1 x6_1).f1) x9_6 = some r) ∧ Aside0 (kq ≤ k1) ∧ Aside0 (Kd.R k34 34 wc w.heap.size (fun _ => True) u5 x5_1) ∧ Aside0 (Below w.heap.size w wc))
       case first =>
        have H := HC7.out
        clear HC7
        have H' := a0_ H
        clear H
        go_wp2
        repeat (go_quiet (fail); try go_wp2)
        go_loopg [9] k1 (fun kq v9 w' => ∃ (x9_2 : Int), v9 = .int .i64 x9_2 ∧ Aside0 (orielref35_Net.l1 kq l0 l1 x5_1 x6_1 ((rd_T36 l0 x6_1).f1) ((rd_T36 l1 x6_1).f1) x9_2 = some r) ∧ Aside0 (kq ≤ k1) ∧ Aside0 (Kd.R k34 34 w' w.heap.size (fun _ => True) u5 x5_1) ∧ Aside0 (Below w.heap.size w w'))
        case atStart => exact ⟨(0), (by first | rfl | (simp; done) | (simp [*]; done)), H', ⟨Nat.le_refl _⟩, ⟨by (with_reducible repeat (first | apply Kd.R_alloc | apply Kd.R_drewN | apply Kd.R_drew)); exact HO_5.out⟩, ⟨by repeat (first | (with_reducible first | exact HB.out | apply bA_ | apply bN_ | apply bD_) | exact HB.out)⟩⟩
        case round =>
         clear H'
         obtain ⟨x9_2, rfl, HA, HK2, HO_5, HB⟩ := hrel
         cases gk with
         | zero => exact absurd HA.out (by simp [orielref35_Net.l1])
         | succ k2 =>
          have H := HA.out
          clear HA
          simp only [orielref35_Net.l1] at H
          by_cases c8 : x9_2 < (((rd_T36 l0 x6_1).f1).size : Int)
          ·rw [if_pos c8] at H
           have c8b0 := decide_eq_true c8
           clear c8
           (first | rw [c8b0] | (simp only [i64_w, i32_w]; rw [c8b0]) | skip)
           by_cases c9 : x9_2 < (((rd_T36 l1 x6_1).f1).size : Int)
           ·rw [if_pos c9] at H
            have c9b0 := decide_eq_true c9
            clear c9
            obtain ⟨ji10, hji10⟩ : ∃ j_ : Int, (wrap64 (x9_2 + 1)) = j_ := ⟨_, rfl⟩
            replace H : (if 0 ≤ (ji10) then (if (ji10) ≤ (((rd_T36 l0 x6_1).f1).size : Int) then (if (ji10) ≤ (((rd_T36 l1 x6_1).f1).size : Int) then (if (((rd_T36 l0 x6_1).f1).extract 0 ((ji10) : Int).toNat).toList = (((rd_T36 l1 x6_1).f1).extract 0 ((ji10) : Int).toNat).toList then (orielref35_Net.l1 k2 l0 l1 x5_1 x6_1 ((rd_T36 l0 x6_1).f1) ((rd_T36 l1 x6_1).f1) ji10) else (orielref35_Net.j2 k2 l0 l1 x5_1 x6_1 ((rd_T36 l0 x6_1).f1) ((rd_T36 l1 x6_1).f1) x9_2)) else (none)) else (none)) else (none)) = some r := by first | (rw [hji10] at H; exact H) | (simp only [hji10] at H ⊢; exact H)
            have hji10w : (IntKind.i64.wrap (x9_2 + 1)) = ji10 := (i64_w _).trans hji10
            by_cases c11 : 0 ≤ (ji10)
            ·rw [if_pos c11] at H
             have c11b0 := eq_true c11
             have c11b1 := decide_eq_true c11
             clear c11
             by_cases c12 : (ji10) ≤ (((rd_T36 l0 x6_1).f1).size : Int)
             ·rw [if_pos c12] at H
              have c12b0 := eq_true c12
              have c12b1 := decide_eq_true c12
              clear c12
              have c13b0 := eq_true (od_ (by assumption) : 0 ≤ (ji10))
              by_cases c14 : (ji10) ≤ (((rd_T36 l1 x6_1).f1).size : Int)
              ·rw [if_pos c14] at H
               have c14b0 := eq_true c14
               have c14b1 := decide_eq_true c14
               clear c14
               by_cases c15 : (((rd_T36 l0 x6_1).f1).extract 0 ((ji10) : Int).toNat).toList = (((rd_T36 l1 x6_1).f1).extract 0 ((ji10) : Int).toNat).toList
               ·rw [if_pos c15] at H
                have c15b0 : ((((rd_T36 l0 x6_1).f1).extract 0 ((ji10) : Int).toNat).toList == (((rd_T36 l1 x6_1).f1).extract 0 ((ji10) : Int).toNat).toList) = true := beq_iff_eq.mpr c15
                have c15b1 : ((((rd_T36 l0 x6_1).f1).extract 0 ((ji10) : Int).toNat).toList != (((rd_T36 l1 x6_1).f1).extract 0 ((ji10) : Int).toNat).toList) = false := bne_eq_false_iff_eq.mpr c15
                clear c15
                have H' := a0_ H
                clear H
                go_wp2
                repeat (go_quiet (fail); try go_wp2)
                go_roundg k2
                case measure => have := HK1.out; have := HK2.out; omega
                case rel => exact ⟨(ji10), (by first | rfl | (simp; done) | (simp only [← hji10] <;> (first | rfl | simp)) | (simp [*]; done)), H', ⟨by have := HK1.out; have := HK2.out; omega⟩, ⟨by (with_reducible repeat (first | apply Kd.R_alloc | apply Kd.R_drewN | apply Kd.R_drew)); exact HO_5.out⟩, ⟨by repeat (first | (with_reducible first | exact HB.out | apply bA_ | apply bN_ | apply bD_) | exact HB.out)⟩⟩
               ·rw [if_neg c15] at H
                have c15b0 : ((((rd_T36 l0 x6_1).f1).extract 0 ((ji10) : Int).toNat).toList == (((rd_T36 l1 x6_1).f1).extract 0 ((ji10) : Int).toNat).toList) = false := beq_eq_false_iff_ne.mpr c15
                have c15b1 : ((((rd_T36 l0 x6_1).f1).extract 0 ((ji10) : Int).toNat).toList != (((rd_T36 l1 x6_1).f1).extract 0 ((ji10) : Int).toNat).toList) = true := bne_iff_ne.mpr c15
                have H' := a0_ H
                clear H
                go_wp2
                repeat (go_quiet (fail); try go_wp2)
                go_meet
                case rel => exact ⟨_, (x9_2), (by first | rfl | (simp; done) | (simp [*]; done)), H', ⟨by have := HK1.out; have := HK2.out; first | omega | exact Nat.le_refl _⟩, ⟨by (with_reducible repeat (first | apply Kd.R_alloc | apply Kd.R_drewN | apply Kd.R_drew)); exact HO_5.out⟩, ⟨by repeat (first | (with_reducible first | exact HB.out | apply bA_ | apply bN_ | apply bD_) | exact HB.out)⟩⟩
              ·rw [if_neg c14] at H
               exact absurd H (by simp)
             ·rw [if_neg c12] at H
              exact absurd H (by simp)
            ·rw [if_neg c11] at H
             exact absurd H (by simp)
           ·rw [if_neg c9] at H
            have c9b0 := decide_eq_false c9
            clear c9
            have H' := a0_ H
            clear H
            go_wp2
            repeat (go_quiet (fail); try go_wp2)
            go_meet
            case rel => exact ⟨_, (x9_2), (by first | rfl | (simp; done) | (simp [*]; done)), H', ⟨by have := HK1.out; have := HK2.out; first | omega | exact Nat.le_refl _⟩, ⟨by (with_reducible repeat (first | apply Kd.R_alloc | apply Kd.R_drewN | apply Kd.R_drew)); exact HO_5.out⟩, ⟨by repeat (first | (with_reducible first | exact HB.out | apply bA_ | apply bN_ | apply bD_) | exact HB.out)⟩⟩
          ·rw [if_neg c8] at H
           have c8b0 := decide_eq_false c8
           clear c8
           (first | rw [c8b0] | (simp only [i64_w, i32_w]; rw [c8b0]) | skip)
           have H' := a0_ H
           clear H
           go_wp2
           repeat (go_quiet (fail); try go_wp2)
           go_meet
           case rel => exact ⟨_, (x9_2), (by first | rfl | (simp; done) | (simp [*]; done)), H', ⟨by have := HK1.out; have := HK2.out; first | omega | exact Nat.le_refl _⟩, ⟨by (with_reducible repeat (first | apply Kd.R_alloc | apply Kd.R_drewN | apply Kd.R_drew)); exact HO_5.out⟩, ⟨by repeat (first | (with_reducible first | exact HB.out | apply bA_ | apply bN_ | apply bD_) | exact HB.out)⟩⟩
       case rest =>
        clear HC7
        obtain ⟨kq, x9_6, rfl, HA, HJ6, HO_5, HB⟩ := hcut
        cases kq with
        | zero => exact absurd HA.out (by simp [orielref35_Net.j2])
        | succ kj6 =>
         have H := HA.out
         clear HA
         simp only [orielref35_Net.j2] at H
         have H' := a0_ H
         clear H
         go_wp2
         repeat (go_quiet (fail); try go_wp2)
         go_loopg [10] kj6 (fun kq v10 w' => ∃ (x10_3 : Int), v10 = .int .i64 x10_3 ∧ Aside0 (orielref35_Net.l2 kq l0 l1 x5_1 x6_1 ((rd_T36 l0 x6_1).f1) ((rd_T36 l1 x6_1).f1) x9_6 x10_3 = some r) ∧ Aside0 (kq ≤ kj6) ∧ Aside0 (Kd.R k34 34 w' w.heap.size (fun _ => True) u5 x5_1) ∧ Aside0 (Below w.heap.size w w'))
         case atStart => exact ⟨(0), (by first | rfl | (simp; done) | (simp [*]; done)), H', ⟨Nat.le_refl _⟩, ⟨by exact HO_5.out⟩, ⟨by exact HB.out⟩⟩
         case round =>
          clear H'
          obtain ⟨x10_3, rfl, HA, HK3, HO_5, HB⟩ := hrel
          cases gk with
          | zero => exact absurd HA.out (by simp [orielref35_Net.l2])
          | succ k3 =>
           have H := HA.out
           clear HA
           simp only [orielref35_Net.l2] at H
           by_cases c16 : x10_3 < (wrap64 ((((rd_T36 l0 x6_1).f1).size : Int) - x9_6))
           ·rw [if_pos c16] at H
            have c16b0 := decide_eq_true c16
            clear c16
            by_cases c17 : x10_3 < (wrap64 ((((rd_T36 l1 x6_1).f1).size : Int) - x9_6))
            ·rw [if_pos c17] at H
             have c17b0 := decide_eq_true c17
             clear c17
             obtain ⟨ji18, hji18⟩ : ∃ j_ : Int, (wrap64 ((wrap64 ((((rd_T36 l0 x6_1).f1).size : Int) - x10_3)) - 1)) = j_ := ⟨_, rfl⟩
             replace H : (if 0 ≤ (ji18) then (if (ji18) ≤ (((rd_T36 l0 x6_1).f1).size : Int) then (if 0 ≤ (wrap64 ((wrap64 ((((rd_T36 l1 x6_1).f1).size : Int) - x10_3)) - 1)) then (if (wrap64 ((wrap64 ((((rd_T36 l1 x6_1).f1).size : Int) - x10_3)) - 1)) ≤ (((rd_T36 l1 x6_1).f1).size : Int) then (if (((rd_T36 l0 x6_1).f1).extract ((ji18) : Int).toNat ((rd_T36 l0 x6_1).f1).size).toList = (((rd_T36 l1 x6_1).f1).extract ((wrap64 ((wrap64 ((((rd_T36 l1 x6_1).f1).size : Int) - x10_3)) - 1)) : Int).toNat ((rd_T36 l1 x6_1).f1).size).toList then (orielref35_Net.l2 k3 l0 l1 x5_1 x6_1 ((rd_T36 l0 x6_1).f1) ((rd_T36 l1 x6_1).f1) x9_6 (wrap64 (x10_3 + 1))) else (if 0 ≤ x9_6 then (if x9_6 ≤ (wrap64 ((((rd_T36 l1 x6_1).f1).size : Int) - x10_3)) then (if (wrap64 ((((rd_T36 l1 x6_1).f1).size : Int) - x10_3)) ≤ (((rd_T36 l1 x6_1).f1).size : Int) then (if x5_1.length < 3518437208883 then (orielref35_Net.l0 k3 l0 l1 (x5_1 ++ [(⟨x6_1, x9_6, wrap64 ((((rd_T36 l0 x6_1).f1).size : Int) - x10_3), ((rd_T36 l1 x6_1).f1).extract (x9_6 : Int).toNat ((wrap64 ((((rd_T36 l1 x6_1).f1).size : Int) - x10_3)) : Int).toNat⟩ : S34)]) (wrap64 (x6_1 + 1))) else (none)) else (none)) else (none)) else (none))) else (none)) else (none)) else (none)) else (none)) = some r := by first | (rw [hji18] at H; exact H) | (simp only [hji18] at H ⊢; exact H)
             have hji18w : (IntKind.i64.wrap ((wrap64 ((((rd_T36 l0 x6_1).f1).size : Int) - x10_3)) - 1)) = ji18 := (i64_w _).trans hji18
             by_cases c19 : 0 ≤ (ji18)
             ·rw [if_pos c19] at H
              have c19b0 := eq_true c19
              have c19b1 := decide_eq_true c19
              clear c19
              by_cases c20 : (ji18) ≤ (((rd_T36 l0 x6_1).f1).size : Int)
              ·rw [if_pos c20] at H
               have c20b0 := eq_true c20
               have c20b1 := decide_eq_true c20
               clear c20
               obtain ⟨ji21, hji21⟩ : ∃ j_ : Int, (wrap64 ((wrap64 ((((rd_T36 l1 x6_1).f1).size : Int) - x10_3)) - 1)) = j_ := ⟨_, rfl⟩
               replace H : (if 0 ≤ (ji21) then (if (ji21) ≤ (((rd_T36 l1 x6_1).f1).size : Int) then (if (((rd_T36 l0 x6_1).f1).extract ((ji18) : Int).toNat ((rd_T36 l0 x6_1).f1).size).toList = (((rd_T36 l1 x6_1).f1).extract ((ji21) : Int).toNat ((rd_T36 l1 x6_1).f1).size).toList then (orielref35_Net.l2 k3 l0 l1 x5_1 x6_1 ((rd_T36 l0 x6_1).f1) ((rd_T36 l1 x6_1).f1) x9_6 (wrap64 (x10_3 + 1))) else (if 0 ≤ x9_6 then (if x9_6 ≤ (wrap64 ((((rd_T36 l1 x6_1).f1).size : Int) - x10_3)) then (if (wrap64 ((((rd_T36 l1 x6_1).f1).size : Int) - x10_3)) ≤ (((rd_T36 l1 x6_1).f1).size : Int) then (if x5_1.length < 3518437208883 then (orielref35_Net.l0 k3 l0 l1 (x5_1 ++ [(⟨x6_1, x9_6, wrap64 ((((rd_T36 l0 x6_1).f1).size : Int) - x10_3), ((rd_T36 l1 x6_1).f1).extract (x9_6 : Int).toNat ((wrap64 ((((rd_T36 l1 x6_1).f1).size : Int) - x10_3)) : Int).toNat⟩ : S34)]) (wrap64 (x6_1 + 1))) else (none)) else (none)) else (none)) else (none))) else (none)) else (none)) = some r := by first | (rw [hji21] at H; exact H) | (simp only [hji21] at H ⊢; exact H)
               have hji21w : (IntKind.i64.wrap ((wrap64 ((((rd_T36 l1 x6_1).f1).size : Int) - x10_3)) - 1)) = ji21 := (i64_w _).trans hji21
               by_cases c22 : 0 ≤ (ji21)
               ·rw [if_pos c22] at H
                have c22b0 := eq_true c22
                have c22b1 := decide_eq_true c22
                clear c22
                by_cases c23 : (ji21) ≤ (((rd_T36 l1 x6_1).f1).size : Int)
                ·rw [if_pos c23] at H
                 have c23b0 := eq_true c23
                 have c23b1 := decide_eq_true c23
                 clear c23
                 by_cases c24 : (((rd_T36 l0 x6_1).f1).extract ((ji18) : Int).toNat ((rd_T36 l0 x6_1).f1).size).toList = (((rd_T36 l1 x6_1).f1).extract ((ji21) : Int).toNat ((rd_T36 l1 x6_1).f1).size).toList
                 ·rw [if_pos c24] at H
                  have c24b0 : ((((rd_T36 l0 x6_1).f1).extract ((ji18) : Int).toNat ((rd_T36 l0 x6_1).f1).size).toList == (((rd_T36 l1 x6_1).f1).extract ((ji21) : Int).toNat ((rd_T36 l1 x6_1).f1).size).toList) = true := beq_iff_eq.mpr c24
                  have c24b1 : ((((rd_T36 l0 x6_1).f1).extract ((ji18) : Int).toNat ((rd_T36 l0 x6_1).f1).size).toList != (((rd_T36 l1 x6_1).f1).extract ((ji21) : Int).toNat ((rd_T36 l1 x6_1).f1).size).toList) = false := bne_eq_false_iff_eq.mpr c24
                  clear c24
                  have H' := a0_ H
                  clear H
                  go_wp2
                  repeat (go_quiet (fail); try go_wp2)
                  go_roundg k3
                  case measure => have := HK1.out; have := HJ6.out; have := HK3.out; omega
                  case rel => exact ⟨(wrap64 (x10_3 + 1)), (by first | rfl | (simp; done) | (simp [*]; done)), H', ⟨by have := HK1.out; have := HJ6.out; have := HK3.out; omega⟩, ⟨by (with_reducible repeat (first | apply Kd.R_alloc | apply Kd.R_drewN | apply Kd.R_drew)); exact HO_5.out⟩, ⟨by repeat (first | (with_reducible first | exact HB.out | apply bA_ | apply bN_ | apply bD_) | exact HB.out)⟩⟩
                 ·rw [if_neg c24] at H
                  have c24b0 : ((((rd_T36 l0 x6_1).f1).extract ((ji18) : Int).toNat ((rd_T36 l0 x6_1).f1).size).toList == (((rd_T36 l1 x6_1).f1).extract ((ji21) : Int).toNat ((rd_T36 l1 x6_1).f1).size).toList) = false := beq_eq_false_iff_ne.mpr c24
                  have c24b1 : ((((rd_T36 l0 x6_1).f1).extract ((ji18) : Int).toNat ((rd_T36 l0 x6_1).f1).size).toList != (((rd_T36 l1 x6_1).f1).extract ((ji21) : Int).toNat ((rd_T36 l1 x6_1).f1).size).toList) = true := bne_iff_ne.mpr c24
                  by_cases c25 : 0 ≤ x9_6
                  ·rw [if_pos c25] at H
                   have c25b0 := eq_true c25
                   have c25b1 := decide_eq_true c25
                   clear c25
                   by_cases c26 : x9_6 ≤ (wrap64 ((((rd_T36 l1 x6_1).f1).size : Int) - x10_3))
                   ·rw [if_pos c26] at H
                    have c26b0 := eq_true c26
                    have c26b1 := decide_eq_true c26
                    clear c26
                    by_cases c27 : (wrap64 ((((rd_T36 l1 x6_1).f1).size : Int) - x10_3)) ≤ (((rd_T36 l1 x6_1).f1).size : Int)
                    ·rw [if_pos c27] at H
                     have c27b0 := eq_true c27
                     have c27b1 := decide_eq_true c27
                     clear c27
                     by_cases c28 : x5_1.length < 3518437208883
                     ·rw [if_pos c28] at H
                      have LMc28 := a0_ c28
                      clear c28
                      obtain ⟨y258, hy258⟩ : ∃ y_ : List (S34), y_ = (x5_1 ++ [(⟨x6_1, x9_6, wrap64 ((((rd_T36 l0 x6_1).f1).size : Int) - x10_3), ((rd_T36 l1 x6_1).f1).extract (x9_6 : Int).toNat ((wrap64 ((((rd_T36 l1 x6_1).f1).size : Int) - x10_3)) : Int).toNat⟩ : S34)]) := ⟨_, rfl⟩
                      replace H : (orielref35_Net.l0 k3 l0 l1 y258 (wrap64 (x6_1 + 1))) = some r := by first | (rw [hy258]; with_reducible exact H) | (have H2_ := (Option.bind_some _ _).symm.trans H; rw [hy258]; with_reducible exact H2_) | (have H2_ := (Option.bind_some _ _).symm.trans H; with_reducible exact H2_) | with_reducible exact H | (rw [hy258]; exact H) | exact H
                      have Ny258 := a0_ hy258
                      clear hy258
                      have H' := a0_ H
                      clear H
                      go_wp2_with (first | ((with_reducible refine gate_builtin (b := .append) (xs := #[.tmp 86, .tmp 101]) rfl ?_); (try (refine gate_guard (by rfl) ?_; dsimp only)); at_builtin; refine Kd.R_append k34 (w0 := w) w.heap.size rfl (.tmp 86) (.tmp 101) 27 34 (.agg #[(.int .i64 0), (.int .i64 0), (.int .i64 0), (.string ⟨#[]⟩)]) 40 rfl Try.underlying27 info34 rfl (by decide) (by omega) u5 x5_1 (⟨x6_1, x9_6, wrap64 ((((rd_T36 l0 x6_1).f1).size : Int) - x10_3), ((rd_T36 l1 x6_1).f1).extract (x9_6 : Int).toNat ((wrap64 ((((rd_T36 l1 x6_1).f1).size : Int) - x10_3)) : Int).toNat⟩ : S34) [.int .i64 x6_1, .int .i64 x9_6, .int .i64 (wrap64 ((((rd_T36 l0 x6_1).f1).size : Int) - x10_3)), .string (((rd_T36 l1 x6_1).f1).extract (x9_6 : Int).toNat ((wrap64 ((((rd_T36 l1 x6_1).f1).size : Int) - x10_3)) : Int).toNat)] (fun _ => True) (fun _ => False) rfl rfl ?aP (fun _ hk => hk.elim) ?aF ?aO ?aB ?aS ?aL ?_; (case aP => exact k34_mkM _ _ _ (⟨x6_1, x9_6, wrap64 ((((rd_T36 l0 x6_1).f1).size : Int) - x10_3), ((rd_T36 l1 x6_1).f1).extract (x9_6 : Int).toNat ((wrap64 ((((rd_T36 l1 x6_1).f1).size : Int) - x10_3)) : Int).toNat⟩ : S34)); (case aB => exact (by exact HB.out)); (case aF => exact (fun _ _ => trivial)); (case aO => exact (by exact HO_5.out)); (case aS => exact (bZ_ (by exact HB.out))); (case aL => have := LMc28.out; omega); intro v259 w29 ho hb hg hat; rw [← Ny258.out] at ho; replace HB := a0_ (hb); have HO260 := a0_ (ho); clear HO_5; clear ho hb hg hat))
                      repeat (go_quiet (first | ((with_reducible refine gate_builtin (b := .append) (xs := #[.tmp 86, .tmp 101]) rfl ?_); (try (refine gate_guard (by rfl) ?_; dsimp only)); at_builtin; refine Kd.R_append k34 (w0 := w) w.heap.size rfl (.tmp 86) (.tmp 101) 27 34 (.agg #[(.int .i64 0), (.int .i64 0), (.int .i64 0), (.string ⟨#[]⟩)]) 40 rfl Try.underlying27 info34 rfl (by decide) (by omega) u5 x5_1 (⟨x6_1, x9_6, wrap64 ((((rd_T36 l0 x6_1).f1).size : Int) - x10_3), ((rd_T36 l1 x6_1).f1).extract (x9_6 : Int).toNat ((wrap64 ((((rd_T36 l1 x6_1).f1).size : Int) - x10_3)) : Int).toNat⟩ : S34) [.int .i64 x6_1, .int .i64 x9_6, .int .i64 (wrap64 ((((rd_T36 l0 x6_1).f1).size : Int) - x10_3)), .string (((rd_T36 l1 x6_1).f1).extract (x9_6 : Int).toNat ((wrap64 ((((rd_T36 l1 x6_1).f1).size : Int) - x10_3)) : Int).toNat)] (fun _ => True) (fun _ => False) rfl rfl ?aP (fun _ hk => hk.elim) ?aF ?aO ?aB ?aS ?aL ?_; (case aP => exact k34_mkM _ _ _ (⟨x6_1, x9_6, wrap64 ((((rd_T36 l0 x6_1).f1).size : Int) - x10_3), ((rd_T36 l1 x6_1).f1).extract (x9_6 : Int).toNat ((wrap64 ((((rd_T36 l1 x6_1).f1).size : Int) - x10_3)) : Int).toNat⟩ : S34)); (case aB => exact (by repeat (first | (with_reducible first | exact HB.out | apply bA_ | apply bN_ | apply bD_) | exact HB.out))); (case aF => exact (fun _ _ => trivial)); (case aO => exact (by (with_reducible repeat (first | apply Kd.R_alloc | apply Kd.R_drewN | apply Kd.R_drew)); exact HO_5.out)); (case aS => exact (bZ_ (by repeat (first | (with_reducible first | exact HB.out | apply bA_ | apply bN_ | apply bD_) | exact HB.out)))); (case aL => have := LMc28.out; omega); intro v259 w29 ho hb hg hat; rw [← Ny258.out] at ho; replace HB := a0_ (hb); have HO260 := a0_ (ho); clear HO_5; clear ho hb hg hat)); try go_wp2_with (first | ((with_reducible refine gate_builtin (b := .append) (xs := #[.tmp 86, .tmp 101]) rfl ?_); (try (refine gate_guard (by rfl) ?_; dsimp only)); at_builtin; refine Kd.R_append k34 (w0 := w) w.heap.size rfl (.tmp 86) (.tmp 101) 27 34 (.agg #[(.int .i64 0), (.int .i64 0), (.int .i64 0), (.string ⟨#[]⟩)]) 40 rfl Try.underlying27 info34 rfl (by decide) (by omega) u5 x5_1 (⟨x6_1, x9_6, wrap64 ((((rd_T36 l0 x6_1).f1).size : Int) - x10_3), ((rd_T36 l1 x6_1).f1).extract (x9_6 : Int).toNat ((wrap64 ((((rd_T36 l1 x6_1).f1).size : Int) - x10_3)) : Int).toNat⟩ : S34) [.int .i64 x6_1, .int .i64 x9_6, .int .i64 (wrap64 ((((rd_T36 l0 x6_1).f1).size : Int) - x10_3)), .string (((rd_T36 l1 x6_1).f1).extract (x9_6 : Int).toNat ((wrap64 ((((rd_T36 l1 x6_1).f1).size : Int) - x10_3)) : Int).toNat)] (fun _ => True) (fun _ => False) rfl rfl ?aP (fun _ hk => hk.elim) ?aF ?aO ?aB ?aS ?aL ?_; (case aP => exact k34_mkM _ _ _ (⟨x6_1, x9_6, wrap64 ((((rd_T36 l0 x6_1).f1).size : Int) - x10_3), ((rd_T36 l1 x6_1).f1).extract (x9_6 : Int).toNat ((wrap64 ((((rd_T36 l1 x6_1).f1).size : Int) - x10_3)) : Int).toNat⟩ : S34)); (case aB => exact (by repeat (first | (with_reducible first | exact HB.out | apply bA_ | apply bN_ | apply bD_) | exact HB.out))); (case aF => exact (fun _ _ => trivial)); (case aO => exact (by (with_reducible repeat (first | apply Kd.R_alloc | apply Kd.R_drewN | apply Kd.R_drew)); exact HO_5.out)); (case aS => exact (bZ_ (by repeat (first | (with_reducible first | exact HB.out | apply bA_ | apply bN_ | apply bD_) | exact HB.out)))); (case aL => have := LMc28.out; omega); intro v259 w29 ho hb hg hat; rw [← Ny258.out] at ho; replace HB := a0_ (hb); have HO260 := a0_ (ho); clear HO_5; clear ho hb hg hat)))
                      go_roundg k3
                      case measure => have := HK1.out; have := HJ6.out; have := HK3.out; omega
                      case rel => exact ⟨(y258), (wrap64 (x6_1 + 1)), (by first | rfl | (simp; done) | (simp [*]; done)), H', ⟨by have := HK1.out; have := HJ6.out; have := HK3.out; omega⟩, ⟨by exact HO260.out⟩, ⟨by exact HB.out⟩⟩
                     ·rw [if_neg c28] at H
                      exact absurd H (by simp)
                    ·rw [if_neg c27] at H
                     exact absurd H (by simp)
                   ·rw [if_neg c26] at H
                    exact absurd H (by simp)
                  ·rw [if_neg c25] at H
                   exact absurd H (by simp)
                ·rw [if_neg c23] at H
                 exact absurd H (by simp)
               ·rw [if_neg c22] at H
                exact absurd H (by simp)
              ·rw [if_neg c20] at H
               exact absurd H (by simp)
             ·rw [if_neg c19] at H
              exact absurd H (by simp)
            ·rw [if_neg c17] at H
             have c17b0 := decide_eq_false c17
             clear c17
             by_cases c30 : 0 ≤ x9_6
             ·rw [if_pos c30] at H
              have c30b0 := eq_true c30
              have c30b1 := decide_eq_true c30
              clear c30
              by_cases c31 : x9_6 ≤ (wrap64 ((((rd_T36 l1 x6_1).f1).size : Int) - x10_3))
              ·rw [if_pos c31] at H
               have c31b0 := eq_true c31
               have c31b1 := decide_eq_true c31
               clear c31
               by_cases c32 : (wrap64 ((((rd_T36 l1 x6_1).f1).size : Int) - x10_3)) ≤ (((rd_T36 l1 x6_1).f1).size : Int)
               ·rw [if_pos c32] at H
                have c32b0 := eq_true c32
                have c32b1 := decide_eq_true c32
                clear c32
                by_cases c33 : x5_1.length < 3518437208883
                ·rw [if_pos c33] at H
                 have LMc33 := a0_ c33
                 clear c33
                 obtain ⟨y261, hy261⟩ : ∃ y_ : List (S34), y_ = (x5_1 ++ [(⟨x6_1, x9_6, wrap64 ((((rd_T36 l0 x6_1).f1).size : Int) - x10_3), ((rd_T36 l1 x6_1).f1).extract (x9_6 : Int).toNat ((wrap64 ((((rd_T36 l1 x6_1).f1).size : Int) - x10_3)) : Int).toNat⟩ : S34)]) := ⟨_, rfl⟩
                 replace H : (orielref35_Net.l0 k3 l0 l1 y261 (wrap64 (x6_1 + 1))) = some r := by first | (rw [hy261]; with_reducible exact H) | (have H2_ := (Option.bind_some _ _).symm.trans H; rw [hy261]; with_reducible exact H2_) | (have H2_ := (Option.bind_some _ _).symm.trans H; with_reducible exact H2_) | with_reducible exact H | (rw [hy261]; exact H) | exact H
                 have Ny261 := a0_ hy261
                 clear hy261
                 have H' := a0_ H
                 clear H
                 go_wp2_with (first | ((with_reducible refine gate_builtin (b := .append) (xs := #[.tmp 86, .tmp 101]) rfl ?_); (try (refine gate_guard (by rfl) ?_; dsimp only)); at_builtin; refine Kd.R_append k34 (w0 := w) w.heap.size rfl (.tmp 86) (.tmp 101) 27 34 (.agg #[(.int .i64 0), (.int .i64 0), (.int .i64 0), (.string ⟨#[]⟩)]) 40 rfl Try.underlying27 info34 rfl (by decide) (by omega) u5 x5_1 (⟨x6_1, x9_6, wrap64 ((((rd_T36 l0 x6_1).f1).size : Int) - x10_3), ((rd_T36 l1 x6_1).f1).extract (x9_6 : Int).toNat ((wrap64 ((((rd_T36 l1 x6_1).f1).size : Int) - x10_3)) : Int).toNat⟩ : S34) [.int .i64 x6_1, .int .i64 x9_6, .int .i64 (wrap64 ((((rd_T36 l0 x6_1).f1).size : Int) - x10_3)), .string (((rd_T36 l1 x6_1).f1).extract (x9_6 : Int).toNat ((wrap64 ((((rd_T36 l1 x6_1).f1).size : Int) - x10_3)) : Int).toNat)] (fun _ => True) (fun _ => False) rfl rfl ?aP (fun _ hk => hk.elim) ?aF ?aO ?aB ?aS ?aL ?_; (case aP => exact k34_mkM _ _ _ (⟨x6_1, x9_6, wrap64 ((((rd_T36 l0 x6_1).f1).size : Int) - x10_3), ((rd_T36 l1 x6_1).f1).extract (x9_6 : Int).toNat ((wrap64 ((((rd_T36 l1 x6_1).f1).size : Int) - x10_3)) : Int).toNat⟩ : S34)); (case aB => exact (by exact HB.out)); (case aF => exact (fun _ _ => trivial)); (case aO => exact (by exact HO_5.out)); (case aS => exact (bZ_ (by exact HB.out))); (case aL => have := LMc33.out; omega); intro v262 w34 ho hb hg hat; rw [← Ny261.out] at ho; replace HB := a0_ (hb); have HO263 := a0_ (ho); clear HO_5; clear ho hb hg hat))
                 repeat (go_quiet (first | ((with_reducible refine gate_builtin (b := .append) (xs := #[.tmp 86, .tmp 101]) rfl ?_); (try (refine gate_guard (by rfl) ?_; dsimp only)); at_builtin; refine Kd.R_append k34 (w0 := w) w.heap.size rfl (.tmp 86) (.tmp 101) 27 34 (.agg #[(.int .i64 0), (.int .i64 0), (.int .i64 0), (.string ⟨#[]⟩)]) 40 rfl Try.underlying27 info34 rfl (by decide) (by omega) u5 x5_1 (⟨x6_1, x9_6, wrap64 ((((rd_T36 l0 x6_1).f1).size : Int) - x10_3), ((rd_T36 l1 x6_1).f1).extract (x9_6 : Int).toNat ((wrap64 ((((rd_T36 l1 x6_1).f1).size : Int) - x10_3)) : Int).toNat⟩ : S34) [.int .i64 x6_1, .int .i64 x9_6, .int .i64 (wrap64 ((((rd_T36 l0 x6_1).f1).size : Int) - x10_3)), .string (((rd_T36 l1 x6_1).f1).extract (x9_6 : Int).toNat ((wrap64 ((((rd_T36 l1 x6_1).f1).size : Int) - x10_3)) : Int).toNat)] (fun _ => True) (fun _ => False) rfl rfl ?aP (fun _ hk => hk.elim) ?aF ?aO ?aB ?aS ?aL ?_; (case aP => exact k34_mkM _ _ _ (⟨x6_1, x9_6, wrap64 ((((rd_T36 l0 x6_1).f1).size : Int) - x10_3), ((rd_T36 l1 x6_1).f1).extract (x9_6 : Int).toNat ((wrap64 ((((rd_T36 l1 x6_1).f1).size : Int) - x10_3)) : Int).toNat⟩ : S34)); (case aB => exact (by repeat (first | (with_reducible first | exact HB.out | apply bA_ | apply bN_ | apply bD_) | exact HB.out))); (case aF => exact (fun _ _ => trivial)); (case aO => exact (by (with_reducible repeat (first | apply Kd.R_alloc | apply Kd.R_drewN | apply Kd.R_drew)); exact HO_5.out)); (case aS => exact (bZ_ (by repeat (first | (with_reducible first | exact HB.out | apply bA_ | apply bN_ | apply bD_) | exact HB.out)))); (case aL => have := LMc33.out; omega); intro v262 w34 ho hb hg hat; rw [← Ny261.out] at ho; replace HB := a0_ (hb); have HO263 := a0_ (ho); clear HO_5; clear ho hb hg hat)); try go_wp2_with (first | ((with_reducible refine gate_builtin (b := .append) (xs := #[.tmp 86, .tmp 101]) rfl ?_); (try (refine gate_guard (by rfl) ?_; dsimp only)); at_builtin; refine Kd.R_append k34 (w0 := w) w.heap.size rfl (.tmp 86) (.tmp 101) 27 34 (.agg #[(.int .i64 0), (.int .i64 0), (.int .i64 0), (.string ⟨#[]⟩)]) 40 rfl Try.underlying27 info34 rfl (by decide) (by omega) u5 x5_1 (⟨x6_1, x9_6, wrap64 ((((rd_T36 l0 x6_1).f1).size : Int) - x10_3), ((rd_T36 l1 x6_1).f1).extract (x9_6 : Int).toNat ((wrap64 ((((rd_T36 l1 x6_1).f1).size : Int) - x10_3)) : Int).toNat⟩ : S34) [.int .i64 x6_1, .int .i64 x9_6, .int .i64 (wrap64 ((((rd_T36 l0 x6_1).f1).size : Int) - x10_3)), .string (((rd_T36 l1 x6_1).f1).extract (x9_6 : Int).toNat ((wrap64 ((((rd_T36 l1 x6_1).f1).size : Int) - x10_3)) : Int).toNat)] (fun _ => True) (fun _ => False) rfl rfl ?aP (fun _ hk => hk.elim) ?aF ?aO ?aB ?aS ?aL ?_; (case aP => exact k34_mkM _ _ _ (⟨x6_1, x9_6, wrap64 ((((rd_T36 l0 x6_1).f1).size : Int) - x10_3), ((rd_T36 l1 x6_1).f1).extract (x9_6 : Int).toNat ((wrap64 ((((rd_T36 l1 x6_1).f1).size : Int) - x10_3)) : Int).toNat⟩ : S34)); (case aB => exact (by repeat (first | (with_reducible first | exact HB.out | apply bA_ | apply bN_ | apply bD_) | exact HB.out))); (case aF => exact (fun _ _ => trivial)); (case aO => exact (by (with_reducible repeat (first | apply Kd.R_alloc | apply Kd.R_drewN | apply Kd.R_drew)); exact HO_5.out)); (case aS => exact (bZ_ (by repeat (first | (with_reducible first | exact HB.out | apply bA_ | apply bN_ | apply bD_) | exact HB.out)))); (case aL => have := LMc33.out; omega); intro v262 w34 ho hb hg hat; rw [← Ny261.out] at ho; replace HB := a0_ (hb); have HO263 := a0_ (ho); clear HO_5; clear ho hb hg hat)))
                 go_roundg k3
                 case measure => have := HK1.out; have := HJ6.out; have := HK3.out; omega
                 case rel => exact ⟨(y261), (wrap64 (x6_1 + 1)), (by first | rfl | (simp; done) | (simp [*]; done)), H', ⟨by have := HK1.out; have := HJ6.out; have := HK3.out; omega⟩, ⟨by exact HO263.out⟩, ⟨by exact HB.out⟩⟩
                ·rw [if_neg c33] at H
                 exact absurd H (by simp)
               ·rw [if_neg c32] at H
                exact absurd H (by simp)
              ·rw [if_neg c31] at H
               exact absurd H (by simp)
             ·rw [if_neg c30] at H
              exact absurd H (by simp)
           ·rw [if_neg c16] at H
            have c16b0 := decide_eq_false c16
            clear c16
            by_cases c35 : 0 ≤ x9_6
            ·rw [if_pos c35] at H
             have c35b0 := eq_true c35
             have c35b1 := decide_eq_true c35
             clear c35
             by_cases c36 : x9_6 ≤ (wrap64 ((((rd_T36 l1 x6_1).f1).size : Int) - x10_3))
             ·rw [if_pos c36] at H
              have c36b0 := eq_true c36
              have c36b1 := decide_eq_true c36
              clear c36
              by_cases c37 : (wrap64 ((((rd_T36 l1 x6_1).f1).size : Int) - x10_3)) ≤ (((rd_T36 l1 x6_1).f1).size : Int)
              ·rw [if_pos c37] at H
               have c37b0 := eq_true c37
               have c37b1 := decide_eq_true c37
               clear c37
               by_cases c38 : x5_1.length < 3518437208883
               ·rw [if_pos c38] at H
                have LMc38 := a0_ c38
                clear c38
                obtain ⟨y264, hy264⟩ : ∃ y_ : List (S34), y_ = (x5_1 ++ [(⟨x6_1, x9_6, wrap64 ((((rd_T36 l0 x6_1).f1).size : Int) - x10_3), ((rd_T36 l1 x6_1).f1).extract (x9_6 : Int).toNat ((wrap64 ((((rd_T36 l1 x6_1).f1).size : Int) - x10_3)) : Int).toNat⟩ : S34)]) := ⟨_, rfl⟩
                replace H : (orielref35_Net.l0 k3 l0 l1 y264 (wrap64 (x6_1 + 1))) = some r := by first | (rw [hy264]; with_reducible exact H) | (have H2_ := (Option.bind_some _ _).symm.trans H; rw [hy264]; with_reducible exact H2_) | (have H2_ := (Option.bind_some _ _).symm.trans H; with_reducible exact H2_) | with_reducible exact H | (rw [hy264]; exact H) | exact H
                have Ny264 := a0_ hy264
                clear hy264
                have H' := a0_ H
                clear H
                go_wp2_with (first | ((with_reducible refine gate_builtin (b := .append) (xs := #[.tmp 86, .tmp 101]) rfl ?_); (try (refine gate_guard (by rfl) ?_; dsimp only)); at_builtin; refine Kd.R_append k34 (w0 := w) w.heap.size rfl (.tmp 86) (.tmp 101) 27 34 (.agg #[(.int .i64 0), (.int .i64 0), (.int .i64 0), (.string ⟨#[]⟩)]) 40 rfl Try.underlying27 info34 rfl (by decide) (by omega) u5 x5_1 (⟨x6_1, x9_6, wrap64 ((((rd_T36 l0 x6_1).f1).size : Int) - x10_3), ((rd_T36 l1 x6_1).f1).extract (x9_6 : Int).toNat ((wrap64 ((((rd_T36 l1 x6_1).f1).size : Int) - x10_3)) : Int).toNat⟩ : S34) [.int .i64 x6_1, .int .i64 x9_6, .int .i64 (wrap64 ((((rd_T36 l0 x6_1).f1).size : Int) - x10_3)), .string (((rd_T36 l1 x6_1).f1).extract (x9_6 : Int).toNat ((wrap64 ((((rd_T36 l1 x6_1).f1).size : Int) - x10_3)) : Int).toNat)] (fun _ => True) (fun _ => False) rfl rfl ?aP (fun _ hk => hk.elim) ?aF ?aO ?aB ?aS ?aL ?_; (case aP => exact k34_mkM _ _ _ (⟨x6_1, x9_6, wrap64 ((((rd_T36 l0 x6_1).f1).size : Int) - x10_3), ((rd_T36 l1 x6_1).f1).extract (x9_6 : Int).toNat ((wrap64 ((((rd_T36 l1 x6_1).f1).size : Int) - x10_3)) : Int).toNat⟩ : S34)); (case aB => exact (by exact HB.out)); (case aF => exact (fun _ _ => trivial)); (case aO => exact (by exact HO_5.out)); (case aS => exact (bZ_ (by exact HB.out))); (case aL => have := LMc38.out; omega); intro v265 w39 ho hb hg hat; rw [← Ny264.out] at ho; replace HB := a0_ (hb); have HO266 := a0_ (ho); clear HO_5; clear ho hb hg hat))
                repeat (go_quiet (first | ((with_reducible refine gate_builtin (b := .append) (xs := #[.tmp 86, .tmp 101]) rfl ?_); (try (refine gate_guard (by rfl) ?_; dsimp only)); at_builtin; refine Kd.R_append k34 (w0 := w) w.heap.size rfl (.tmp 86) (.tmp 101) 27 34 (.agg #[(.int .i64 0), (.int .i64 0), (.int .i64 0), (.string ⟨#[]⟩)]) 40 rfl Try.underlying27 info34 rfl (by decide) (by omega) u5 x5_1 (⟨x6_1, x9_6, wrap64 ((((rd_T36 l0 x6_1).f1).size : Int) - x10_3), ((rd_T36 l1 x6_1).f1).extract (x9_6 : Int).toNat ((wrap64 ((((rd_T36 l1 x6_1).f1).size : Int) - x10_3)) : Int).toNat⟩ : S34) [.int .i64 x6_1, .int .i64 x9_6, .int .i64 (wrap64 ((((rd_T36 l0 x6_1).f1).size : Int) - x10_3)), .string (((rd_T36 l1 x6_1).f1).extract (x9_6 : Int).toNat ((wrap64 ((((rd_T36 l1 x6_1).f1).size : Int) - x10_3)) : Int).toNat)] (fun _ => True) (fun _ => False) rfl rfl ?aP (fun _ hk => hk.elim) ?aF ?aO ?aB ?aS ?aL ?_; (case aP => exact k34_mkM _ _ _ (⟨x6_1, x9_6, wrap64 ((((rd_T36 l0 x6_1).f1).size : Int) - x10_3), ((rd_T36 l1 x6_1).f1).extract (x9_6 : Int).toNat ((wrap64 ((((rd_T36 l1 x6_1).f1).size : Int) - x10_3)) : Int).toNat⟩ : S34)); (case aB => exact (by repeat (first | (with_reducible first | exact HB.out | apply bA_ | apply bN_ | apply bD_) | exact HB.out))); (case aF => exact (fun _ _ => trivial)); (case aO => exact (by (with_reducible repeat (first | apply Kd.R_alloc | apply Kd.R_drewN | apply Kd.R_drew)); exact HO_5.out)); (case aS => exact (bZ_ (by repeat (first | (with_reducible first | exact HB.out | apply bA_ | apply bN_ | apply bD_) | exact HB.out)))); (case aL => have := LMc38.out; omega); intro v265 w39 ho hb hg hat; rw [← Ny264.out] at ho; replace HB := a0_ (hb); have HO266 := a0_ (ho); clear HO_5; clear ho hb hg hat)); try go_wp2_with (first | ((with_reducible refine gate_builtin (b := .append) (xs := #[.tmp 86, .tmp 101]) rfl ?_); (try (refine gate_guard (by rfl) ?_; dsimp only)); at_builtin; refine Kd.R_append k34 (w0 := w) w.heap.size rfl (.tmp 86) (.tmp 101) 27 34 (.agg #[(.int .i64 0), (.int .i64 0), (.int .i64 0), (.string ⟨#[]⟩)]) 40 rfl Try.underlying27 info34 rfl (by decide) (by omega) u5 x5_1 (⟨x6_1, x9_6, wrap64 ((((rd_T36 l0 x6_1).f1).size : Int) - x10_3), ((rd_T36 l1 x6_1).f1).extract (x9_6 : Int).toNat ((wrap64 ((((rd_T36 l1 x6_1).f1).size : Int) - x10_3)) : Int).toNat⟩ : S34) [.int .i64 x6_1, .int .i64 x9_6, .int .i64 (wrap64 ((((rd_T36 l0 x6_1).f1).size : Int) - x10_3)), .string (((rd_T36 l1 x6_1).f1).extract (x9_6 : Int).toNat ((wrap64 ((((rd_T36 l1 x6_1).f1).size : Int) - x10_3)) : Int).toNat)] (fun _ => True) (fun _ => False) rfl rfl ?aP (fun _ hk => hk.elim) ?aF ?aO ?aB ?aS ?aL ?_; (case aP => exact k34_mkM _ _ _ (⟨x6_1, x9_6, wrap64 ((((rd_T36 l0 x6_1).f1).size : Int) - x10_3), ((rd_T36 l1 x6_1).f1).extract (x9_6 : Int).toNat ((wrap64 ((((rd_T36 l1 x6_1).f1).size : Int) - x10_3)) : Int).toNat⟩ : S34)); (case aB => exact (by repeat (first | (with_reducible first | exact HB.out | apply bA_ | apply bN_ | apply bD_) | exact HB.out))); (case aF => exact (fun _ _ => trivial)); (case aO => exact (by (with_reducible repeat (first | apply Kd.R_alloc | apply Kd.R_drewN | apply Kd.R_drew)); exact HO_5.out)); (case aS => exact (bZ_ (by repeat (first | (with_reducible first | exact HB.out | apply bA_ | apply bN_ | apply bD_) | exact HB.out)))); (case aL => have := LMc38.out; omega); intro v265 w39 ho hb hg hat; rw [← Ny264.out] at ho; replace HB := a0_ (hb); have HO266 := a0_ (ho); clear HO_5; clear ho hb hg hat)))
                go_roundg k3
                case measure => have := HK1.out; have := HJ6.out; have := HK3.out; omega
                case rel => exact ⟨(y264), (wrap64 (x6_1 + 1)), (by first | rfl | (simp; done) | (simp [*]; done)), H', ⟨by have := HK1.out; have := HJ6.out; have := HK3.out; omega⟩, ⟨by exact HO266.out⟩, ⟨by exact HB.out⟩⟩
               ·rw [if_neg c38] at H
                exact absurd H (by simp)
              ·rw [if_neg c37] at H
               exact absurd H (by simp)
             ·rw [if_neg c36] at H
              exact absurd H (by simp)
            ·rw [if_neg c35] at H
             exact absurd H (by simp)
     ·rw [if_neg c5] at H
      exact absurd H (by simp)
    ·rw [if_neg c4] at H
     exact absurd H (by simp)
   ·rw [if_neg c3] at H
    have c3b0 := decide_eq_false c3
    clear c3
    obtain rfl := Option.some.inj H
    go_wp2
    repeat (go_quiet (fail); try go_wp2)
    go_ret
    exact ⟨_, by first | rfl | (simp [errW_none, errW_some] <;> rfl) | (simp [*, errW_none, errW_some] <;> rfl), by exact HO_5.out, by exact HB.out⟩
end Go.Proofs.Ytclcnglamlegiaa.PMR
