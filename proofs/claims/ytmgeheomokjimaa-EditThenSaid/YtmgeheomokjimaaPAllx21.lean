-- Written by ownprint.py, a program of this session (out of the kit's print, with contracts of the session's own).
import Derived.Test.YtmgeheomokjimaaPAllx0
namespace Go.Proofs.Ytmgeheomokjimaa.PAll
open Go.RowKit Go.Proofs.YtmgeheomokjimaaW.PrintWords Go.Proofs.YtmgeheomokjimaaW.PrintLast Go.Proofs.YtmgeheomokjimaaW.PrintMore
attribute [local go_sem] max2_int min2_int max_two min_two max_three min_three max_four min_four   -- for this text's walks alone
set_option linter.unusedVariables false
set_option linter.unusedSimpArgs false

/-! ### edit_ahead: function 33 -/
mutual
def edit_ahead.l0 : Nat → Int → Bool → Int → List (S47) → Int → Int → Option (Int)
  | 0, _, _, _, _, _, _ => none
  | k + 1, x0, x2, x7, x12, x13, x14 => if x14 < x13 then (if 0 ≤ x14 then (if x14 < (x12.length : Int) then (if x0 < (wrap64 (((rd_T47 x12 x14).f0) + x7)) then (edit_ahead.j1 k x0 x2 x7 (wrap64 ((wrap64 (((rd_T47 x12 x14).f0) + x7)) + (((rd_T47 x12 x14).f2).size : Int))) x12 x13 x14 true ((rd_T47 x12 x14).f0) ((rd_T47 x12 x14).f1) ((rd_T47 x12 x14).f2)) else (if x0 = (wrap64 (((rd_T47 x12 x14).f0) + x7)) then (edit_ahead.j1 k x0 x2 x7 (wrap64 ((wrap64 (((rd_T47 x12 x14).f0) + x7)) + (((rd_T47 x12 x14).f2).size : Int))) x12 x13 x14 (!x2) ((rd_T47 x12 x14).f0) ((rd_T47 x12 x14).f1) ((rd_T47 x12 x14).f2)) else (edit_ahead.j1 k x0 x2 x7 (wrap64 ((wrap64 (((rd_T47 x12 x14).f0) + x7)) + (((rd_T47 x12 x14).f2).size : Int))) x12 x13 x14 false ((rd_T47 x12 x14).f0) ((rd_T47 x12 x14).f1) ((rd_T47 x12 x14).f2)))) else (none)) else (none)) else (some (wrap64 (x0 - x7)))
def edit_ahead.j1 : Nat → Int → Bool → Int → Int → List (S47) → Int → Int → Bool → Int → Int → ByteArray → Option (Int)
  | 0, _, _, _, _, _, _, _, _, _, _, _ => none
  | k + 1, x0, x2, x7, x11, x12, x13, x14, x38, x236000, x236001, x236002 => if x38 = true then (some (wrap64 (x0 - x7))) else (if x0 < x11 then (edit_ahead.j2 k x0 x2 x7 x12 x13 x14 true x236000 x236001 x236002) else (if x0 = x11 then (edit_ahead.j2 k x0 x2 x7 x12 x13 x14 x2 x236000 x236001 x236002) else (edit_ahead.j2 k x0 x2 x7 x12 x13 x14 false x236000 x236001 x236002)))
def edit_ahead.j2 : Nat → Int → Bool → Int → List (S47) → Int → Int → Bool → Int → Int → ByteArray → Option (Int)
  | 0, _, _, _, _, _, _, _, _, _, _ => none
  | k + 1, x0, x2, x7, x12, x13, x14, x49, x236000, x236001, x236002 => if x49 = true then (if x2 = true then (some x236001) else (some x236000)) else (edit_ahead.l0 k x0 x2 (wrap64 (x7 + (wrap64 ((x236002.size : Int) - (wrap64 (x236001 - x236000)))))) x12 x13 (wrap64 (x14 + 1)))
end
def edit_ahead.f (k : Nat) (a0 : Int) (l1 : List (S47)) (a2 : Bool) : Option (Int) := edit_ahead.l0 k a0 a2 0 l1 (l1.length : Int) 0
theorem edit_ahead.mono_l : ∀ k, (∀ y0 y1 y2 y3 y4 y5, LeO (edit_ahead.l0 k y0 y1 y2 y3 y4 y5) (edit_ahead.l0 (k + 1) y0 y1 y2 y3 y4 y5)) ∧ (∀ y0 y1 y2 y3 y4 y5 y6 y7 y8 y9 y10, LeO (edit_ahead.j1 k y0 y1 y2 y3 y4 y5 y6 y7 y8 y9 y10) (edit_ahead.j1 (k + 1) y0 y1 y2 y3 y4 y5 y6 y7 y8 y9 y10)) ∧ (∀ y0 y1 y2 y3 y4 y5 y6 y7 y8 y9, LeO (edit_ahead.j2 k y0 y1 y2 y3 y4 y5 y6 y7 y8 y9) (edit_ahead.j2 (k + 1) y0 y1 y2 y3 y4 y5 y6 y7 y8 y9))
  | 0 => ⟨fun _ _ _ _ _ _ r h => by simp [edit_ahead.l0] at h, fun _ _ _ _ _ _ _ _ _ _ _ r h => by simp [edit_ahead.j1] at h, fun _ _ _ _ _ _ _ _ _ _ r h => by simp [edit_ahead.j2] at h⟩
  | k + 1 => by
    obtain ⟨ih0, ih1, ih2⟩ := edit_ahead.mono_l k
    refine ⟨?_, ?_, ?_⟩
    · intro y0 y1 y2 y3 y4 y5
      unfold edit_ahead.l0
      repeat' first
      | (with_reducible exact ih0 _ _ _ _ _ _)
      | (with_reducible exact ih1 _ _ _ _ _ _ _ _ _ _ _)
      | (with_reducible exact ih2 _ _ _ _ _ _ _ _ _ _)
      | (with_reducible exact LeO.refl _)
      | (with_reducible exact LeO.none _)
      | (with_reducible refine LeO.ite ?_ ?_)
      | (with_reducible refine LeO.bind ?_ (fun _ => ?_))
      | exact ih0 _ _ _ _ _ _
      | exact ih1 _ _ _ _ _ _ _ _ _ _ _
      | exact ih2 _ _ _ _ _ _ _ _ _ _
      | exact LeO.none _
      | refine LeO.ite ?_ ?_
      | refine LeO.bind ?_ (fun _ => ?_)
    · intro y0 y1 y2 y3 y4 y5 y6 y7 y8 y9 y10
      unfold edit_ahead.j1
      repeat' first
      | (with_reducible exact ih0 _ _ _ _ _ _)
      | (with_reducible exact ih1 _ _ _ _ _ _ _ _ _ _ _)
      | (with_reducible exact ih2 _ _ _ _ _ _ _ _ _ _)
      | (with_reducible exact LeO.refl _)
      | (with_reducible exact LeO.none _)
      | (with_reducible refine LeO.ite ?_ ?_)
      | (with_reducible refine LeO.bind ?_ (fun _ => ?_))
      | exact ih0 _ _ _ _ _ _
      | exact ih1 _ _ _ _ _ _ _ _ _ _ _
      | exact ih2 _ _ _ _ _ _ _ _ _ _
      | exact LeO.none _
      | refine LeO.ite ?_ ?_
      | refine LeO.bind ?_ (fun _ => ?_)
    · intro y0 y1 y2 y3 y4 y5 y6 y7 y8 y9
      unfold edit_ahead.j2
      repeat' first
      | (with_reducible exact ih0 _ _ _ _ _ _)
      | (with_reducible exact ih1 _ _ _ _ _ _ _ _ _ _ _)
      | (with_reducible exact ih2 _ _ _ _ _ _ _ _ _ _)
      | (with_reducible exact LeO.refl _)
      | (with_reducible exact LeO.none _)
      | (with_reducible refine LeO.ite ?_ ?_)
      | (with_reducible refine LeO.bind ?_ (fun _ => ?_))
      | exact ih0 _ _ _ _ _ _
      | exact ih1 _ _ _ _ _ _ _ _ _ _ _
      | exact ih2 _ _ _ _ _ _ _ _ _ _
      | exact LeO.none _
      | refine LeO.ite ?_ ?_
      | refine LeO.bind ?_ (fun _ => ?_)
theorem edit_ahead.mono : ∀ a0 a1 a2 k, LeO (edit_ahead.f k a0 a1 a2) (edit_ahead.f (k + 1) a0 a1 a2) := by
  intro a0 a1 a2 k
  obtain ⟨ih0, ih1, ih2⟩ := edit_ahead.mono_l k
  unfold edit_ahead.f
  repeat' first
      | (with_reducible exact ih0 _ _ _ _ _ _)
      | (with_reducible exact ih1 _ _ _ _ _ _ _ _ _ _ _)
      | (with_reducible exact ih2 _ _ _ _ _ _ _ _ _ _)
      | (with_reducible exact LeO.refl _)
      | (with_reducible exact LeO.none _)
      | (with_reducible refine LeO.ite ?_ ?_)
      | (with_reducible refine LeO.bind ?_ (fun _ => ?_))
      | exact ih0 _ _ _ _ _ _
      | exact ih1 _ _ _ _ _ _ _ _ _ _ _
      | exact ih2 _ _ _ _ _ _ _ _ _ _
      | exact LeO.none _
      | refine LeO.ite ?_ ?_
      | refine LeO.bind ?_ (fun _ => ?_)
set_option maxHeartbeats 8000000 in
set_option maxRecDepth 100000 in
theorem edit_ahead.calls (k : Nat) (a0 : Int) (A1 : Option Addr) (c1 : Nat) (l1 : List (S47)) (a2 : Bool) (r : Int) (w : World) (hr1 : Kd.C k47 w A1 l1.length l1) (hc1 : l1.length ≤ c1) (h : edit_ahead.f k a0 l1 a2 = some r) :
    Calls Try.prog 33 #[.int .i64 a0, .slice A1 l1.length c1, .bool a2] w fun e w' => e = .returned (.int .i64 r) ∧ Below w.heap.size w w' := by
  have hu47 := Try.underlying47
  have HR1 := Aside0.mk hr1
  have HC1 := Aside0.mk hc1
  clear hr1 hc1
  have HB := Aside0.mk (Below.refl w.heap.size w)
  have H : (edit_ahead.l0 k a0 a2 0 l1 (l1.length : Int) 0) = some r := h
  clear h
  have H' := Aside0.mk H
  clear H
  go_enter Try.func33, Try.ntmps33
  go_wp2
  go_loopg [7, 14] k (fun kq v7 v14 w' => ∃ (x7_1 : Int) (x14_1 : Int), v7 = .int .i64 x7_1 ∧ v14 = .int .i64 x14_1 ∧ Aside0 (edit_ahead.l0 kq a0 a2 x7_1 l1 (l1.length : Int) x14_1 = some r) ∧ Aside0 (kq ≤ k) ∧ Aside0 (Below w.heap.size w w'))
  case atStart => exact ⟨(0), (0), (by first | rfl | (simp; done) | (simp [*]; done)), (by first | rfl | (simp; done) | (simp [*]; done)), H', ⟨Nat.le_refl _⟩, ⟨by repeat (first | (with_reducible first | exact HB.out | apply below_alloc | apply pw_below_drewN | apply below_drew1) | exact HB.out)⟩⟩
  case round =>
    clear H'
    try clear c1
    try clear p2
    try clear c3
    obtain ⟨x7_1, x14_1, rfl, rfl, HA, HK1, HB⟩ := hrel
    cases gk with
    | zero => exact absurd HA.out (by simp [edit_ahead.l0])
    | succ k1 =>
      have H := HA.out
      clear HA
      simp only [edit_ahead.l0] at H
      by_cases c4 : x14_1 < (l1.length : Int)
      · rw [if_pos c4] at H
        have c4b0 : decide (x14_1 < (l1.length : Int)) = true := decide_eq_true c4
        clear c4
        by_cases c5 : 0 ≤ x14_1
        · rw [if_pos c5] at H
          have c5b0 : decide (0 ≤ x14_1) = true := decide_eq_true c5
          clear c5
          by_cases c6 : x14_1 < (l1.length : Int)
          · rw [if_pos c6] at H
            have c6b0 : decide (x14_1 < (l1.length : Int)) = true := decide_eq_true c6
            clear c6
            have HC7 := Aside0.mk H
            clear H
            have p234 : 0 ≤ (x14_1 : Int) := of_decide_eq_true (by first | (with_reducible assumption) | assumption)
            have q234 : x14_1 < (l1.length : Int) := of_decide_eq_true (by first | (with_reducible assumption) | assumption)
            obtain ⟨ad234, e234, hx234_0, hx234_1, hx234_2⟩ := at_T47 HR1.out x14_1 p234 q234
            cases e234
            replace hx234_0 := (HB.out.cell (World.block_lt_of_cell? w _ hx234_0)).trans hx234_0
            replace hx234_1 := (HB.out.cell (World.block_lt_of_cell? w _ hx234_1)).trans hx234_1
            replace hx234_2 := (HB.out.cell (World.block_lt_of_cell? w _ hx234_2)).trans hx234_2
            replace p234 := eq_true p234
            replace q234 := eq_true q234
            go_upto_region 7 with (first | ((with_reducible refine gate_dst (N := 9) rfl ?_); refine box_event ?hg (N := 9) ?hd (cs := #[.int .i64 0, .int .i64 0, .string (⟨#[]⟩ : ByteArray)]) (t := 47) ?hr ?_; (case hd => rfl); (case hg => rfl); (case hr => first | (go_simp; done) | (go_simp; rfl)); intro gb235 hg w8 hbox hb; have n0_ := Aside0.mk (below_step (by repeat (first | (with_reducible first | exact HB.out | apply below_alloc | apply pw_below_drewN | apply below_drew1) | exact HB.out)) hb); have n1_ := Aside0.mk (hbox); have n2_ := Aside0.mk ((by rw [hg]; exact (below_size (by repeat (first | (with_reducible first | exact HB.out | apply below_alloc | apply pw_below_drewN | apply below_drew1) | exact HB.out))) : w.heap.size ≤ gb235)); have n3_ := Aside0.mk ((by rw [hg]; exact (below_size (by repeat (first | (with_reducible first | exact HB.out | apply below_alloc | apply pw_below_drewN | apply below_drew1) | exact HB.out))) : w.heap.size ≤ gb235)); clear HB; have HB := n0_; have BK235 := n1_; have GW235 := n2_; have GE235 := n3_; clear n0_ n1_ n2_ n3_; clear hb hbox hg; have hcz9_0 : w8.cell? ⟨gb235, 0, none⟩ = some (.int .i64 0) := (blk_cell BK235.out 0).trans rfl; have hcz9_1 : w8.cell? ⟨gb235, 1, none⟩ = some (.int .i64 0) := (blk_cell BK235.out 1).trans rfl; have hcz9_2 : w8.cell? ⟨gb235, 2, none⟩ = some (.string (⟨#[]⟩ : ByteArray)) := (blk_cell BK235.out 2).trans rfl; have hfz9_0 := blk_frozen BK235.out 0; have hfz9_1 := blk_frozen BK235.out 1; have hfz9_2 := blk_frozen BK235.out 2))
            (try simp only [Act.put, List.setIfInBounds_toArray, List.set_cons_zero, List.set_cons_succ])
            go_cut [38] (fun v38 wc => ∃ (kq : Nat) (x38_6 : Bool), v38 = .bool x38_6 ∧ Aside0 (edit_ahead.j1 kq a0 a2 x7_1 (wrap64 ((wrap64 (((rd_T47 l1 x14_1).f0) + x7_1)) + (((rd_T47 l1 x14_1).f2).size : Int))) l1 (l1.length : Int) x14_1 x38_6 ((rd_T47 l1 x14_1).f0) ((rd_T47 l1 x14_1).f1) ((rd_T47 l1 x14_1).f2) = some r) ∧ Aside0 (kq ≤ k1) ∧ Aside0 (wc.heap[gb235]? = some (.cells #[.int .i64 ((rd_T47 l1 x14_1).f0), .int .i64 ((rd_T47 l1 x14_1).f1), .string ((rd_T47 l1 x14_1).f2)] 47 (0, 0))) ∧ Aside0 (Below w.heap.size w wc))
            case first =>
              have H := HC7.out
              clear HC7
              by_cases c10 : a0 < (wrap64 (((rd_T47 l1 x14_1).f0) + x7_1))
              · rw [if_pos c10] at H
                have c10b0 : decide (a0 < (wrap64 (((rd_T47 l1 x14_1).f0) + x7_1))) = true := decide_eq_true c10
                clear c10
                (first | rw [c10b0] | (simp only [i64_w, i32_w]; rw [c10b0]) | skip)
                have H' := Aside0.mk H
                clear H
                go_wp2
                go_meet
                case rel => exact ⟨_, (true), (by first | rfl | (simp; done) | (simp [*]; done)), H', ⟨by have := HK1.out; first | omega | exact Nat.le_refl _⟩, ⟨by (with_reducible repeat (first | refine blk_drewN ?_ _ | refine blk_drew ?_ | refine blk_alloc ?_ _)); refine blk_put (cs := #[.int .i64 ((rd_T47 l1 x14_1).f0), .int .i64 ((rd_T47 l1 x14_1).f1), .string (⟨#[]⟩ : ByteArray)]) ?_ 2 _ rfl; (with_reducible repeat (first | refine blk_drewN ?_ _ | refine blk_drew ?_ | refine blk_alloc ?_ _)); refine blk_put (cs := #[.int .i64 ((rd_T47 l1 x14_1).f0), .int .i64 0, .string (⟨#[]⟩ : ByteArray)]) ?_ 1 _ rfl; (with_reducible repeat (first | refine blk_drewN ?_ _ | refine blk_drew ?_ | refine blk_alloc ?_ _)); refine blk_put (cs := #[.int .i64 0, .int .i64 0, .string (⟨#[]⟩ : ByteArray)]) ?_ 0 _ rfl; (with_reducible repeat (first | refine blk_drewN ?_ _ | refine blk_drew ?_ | refine blk_alloc ?_ _)); exact BK235.out⟩, ⟨by repeat (first | (with_reducible first | exact HB.out | apply below_alloc | apply pw_below_drewN | apply below_drew1 | refine below_set ?_ GE235.out) | exact HB.out)⟩⟩
              · rw [if_neg c10] at H
                have c10b0 : decide (a0 < (wrap64 (((rd_T47 l1 x14_1).f0) + x7_1))) = false := decide_eq_false c10
                clear c10
                (first | rw [c10b0] | (simp only [i64_w, i32_w]; rw [c10b0]) | skip)
                by_cases c11 : a0 = (wrap64 (((rd_T47 l1 x14_1).f0) + x7_1))
                · rw [if_pos c11] at H
                  have c11b0 : (a0 == (wrap64 (((rd_T47 l1 x14_1).f0) + x7_1))) = true := beq_iff_eq.mpr c11
                  have c11b1 : (a0 != (wrap64 (((rd_T47 l1 x14_1).f0) + x7_1))) = false := bne_eq_false_iff_eq.mpr c11
                  clear c11
                  have H' := Aside0.mk H
                  clear H
                  go_wp2
                  go_meet
                  case rel => exact ⟨_, (!a2), (by first | rfl | (simp; done) | (simp [*]; done)), H', ⟨by have := HK1.out; first | omega | exact Nat.le_refl _⟩, ⟨by (with_reducible repeat (first | refine blk_drewN ?_ _ | refine blk_drew ?_ | refine blk_alloc ?_ _)); refine blk_put (cs := #[.int .i64 ((rd_T47 l1 x14_1).f0), .int .i64 ((rd_T47 l1 x14_1).f1), .string (⟨#[]⟩ : ByteArray)]) ?_ 2 _ rfl; (with_reducible repeat (first | refine blk_drewN ?_ _ | refine blk_drew ?_ | refine blk_alloc ?_ _)); refine blk_put (cs := #[.int .i64 ((rd_T47 l1 x14_1).f0), .int .i64 0, .string (⟨#[]⟩ : ByteArray)]) ?_ 1 _ rfl; (with_reducible repeat (first | refine blk_drewN ?_ _ | refine blk_drew ?_ | refine blk_alloc ?_ _)); refine blk_put (cs := #[.int .i64 0, .int .i64 0, .string (⟨#[]⟩ : ByteArray)]) ?_ 0 _ rfl; (with_reducible repeat (first | refine blk_drewN ?_ _ | refine blk_drew ?_ | refine blk_alloc ?_ _)); exact BK235.out⟩, ⟨by repeat (first | (with_reducible first | exact HB.out | apply below_alloc | apply pw_below_drewN | apply below_drew1 | refine below_set ?_ GE235.out) | exact HB.out)⟩⟩
                · rw [if_neg c11] at H
                  have c11b0 : (a0 == (wrap64 (((rd_T47 l1 x14_1).f0) + x7_1))) = false := beq_eq_false_iff_ne.mpr c11
                  have c11b1 : (a0 != (wrap64 (((rd_T47 l1 x14_1).f0) + x7_1))) = true := bne_iff_ne.mpr c11
                  have H' := Aside0.mk H
                  clear H
                  go_wp2
                  go_meet
                  case rel => exact ⟨_, (false), (by first | rfl | (simp; done) | (simp [*]; done)), H', ⟨by have := HK1.out; first | omega | exact Nat.le_refl _⟩, ⟨by (with_reducible repeat (first | refine blk_drewN ?_ _ | refine blk_drew ?_ | refine blk_alloc ?_ _)); refine blk_put (cs := #[.int .i64 ((rd_T47 l1 x14_1).f0), .int .i64 ((rd_T47 l1 x14_1).f1), .string (⟨#[]⟩ : ByteArray)]) ?_ 2 _ rfl; (with_reducible repeat (first | refine blk_drewN ?_ _ | refine blk_drew ?_ | refine blk_alloc ?_ _)); refine blk_put (cs := #[.int .i64 ((rd_T47 l1 x14_1).f0), .int .i64 0, .string (⟨#[]⟩ : ByteArray)]) ?_ 1 _ rfl; (with_reducible repeat (first | refine blk_drewN ?_ _ | refine blk_drew ?_ | refine blk_alloc ?_ _)); refine blk_put (cs := #[.int .i64 0, .int .i64 0, .string (⟨#[]⟩ : ByteArray)]) ?_ 0 _ rfl; (with_reducible repeat (first | refine blk_drewN ?_ _ | refine blk_drew ?_ | refine blk_alloc ?_ _)); exact BK235.out⟩, ⟨by repeat (first | (with_reducible first | exact HB.out | apply below_alloc | apply pw_below_drewN | apply below_drew1 | refine below_set ?_ GE235.out) | exact HB.out)⟩⟩
            case rest =>
              clear HC7
              try clear c1
              try clear p2
              try clear q2
              try clear hx2
              try clear c3
              try clear c4
              try clear c4b0
              try clear c5
              try clear c5b0
              try clear c6
              try clear c6b0
              try clear p6
              try clear c10
              try clear c10b0
              try clear c11
              try clear c11b0
              try clear c11b1
              try clear hcz9_0
              try clear hcz9_1
              try clear hcz9_2
              try clear hfz9_0
              try clear hfz9_1
              try clear hfz9_2
              try clear hx234_0
              try clear hx234_1
              try clear hx234_2
              try clear p2
              try clear p234
              try clear q234
              obtain ⟨kq, x38_6, rfl, HA, HJ6, BK235, HB⟩ := hcut
              cases kq with
              | zero => exact absurd HA.out (by simp [edit_ahead.j1])
              | succ kj6 =>
                have H := HA.out
                clear HA
                simp only [edit_ahead.j1] at H
                by_cases c12 : x38_6 = true
                · subst c12
                  have H1 : (some (wrap64 (a0 - x7_1))) = some r := by rw [if_pos rfl] at H; exact H
                  clear H
                  have H := H1
                  clear H1
                  obtain rfl := Option.some.inj H
                  go_wp2
                  go_ret
                  exact ⟨by first | rfl | (simp [errW_none, errW_some] <;> rfl) | (simp [*, errW_none, errW_some] <;> rfl), by repeat (first | (with_reducible first | exact HB.out | apply below_alloc | apply pw_below_drewN | apply below_drew1 | refine below_set ?_ GE235.out) | exact HB.out)⟩
                · replace c12 := Bool.eq_false_iff.mpr c12
                  subst c12
                  have H1 : (if a0 < (wrap64 ((wrap64 (((rd_T47 l1 x14_1).f0) + x7_1)) + (((rd_T47 l1 x14_1).f2).size : Int))) then (edit_ahead.j2 kj6 a0 a2 x7_1 l1 (l1.length : Int) x14_1 true ((rd_T47 l1 x14_1).f0) ((rd_T47 l1 x14_1).f1) ((rd_T47 l1 x14_1).f2)) else (if a0 = (wrap64 ((wrap64 (((rd_T47 l1 x14_1).f0) + x7_1)) + (((rd_T47 l1 x14_1).f2).size : Int))) then (edit_ahead.j2 kj6 a0 a2 x7_1 l1 (l1.length : Int) x14_1 a2 ((rd_T47 l1 x14_1).f0) ((rd_T47 l1 x14_1).f1) ((rd_T47 l1 x14_1).f2)) else (edit_ahead.j2 kj6 a0 a2 x7_1 l1 (l1.length : Int) x14_1 false ((rd_T47 l1 x14_1).f0) ((rd_T47 l1 x14_1).f1) ((rd_T47 l1 x14_1).f2)))) = some r := by rw [if_neg (show ¬ (false = true) by decide)] at H; exact H
                  clear H
                  have H := H1
                  clear H1
                  have HC13 := Aside0.mk H
                  clear H
                  go_upto_region 8 with (fail)
                  go_cut [49] (fun v49 wc => ∃ (kq : Nat) (x49_12 : Bool), v49 = .bool x49_12 ∧ Aside0 (edit_ahead.j2 kq a0 a2 x7_1 l1 (l1.length : Int) x14_1 x49_12 ((rd_T47 l1 x14_1).f0) ((rd_T47 l1 x14_1).f1) ((rd_T47 l1 x14_1).f2) = some r) ∧ Aside0 (kq ≤ kj6) ∧ Aside0 (wc.heap[gb235]? = some (.cells #[.int .i64 ((rd_T47 l1 x14_1).f0), .int .i64 ((rd_T47 l1 x14_1).f1), .string ((rd_T47 l1 x14_1).f2)] 47 (0, 0))) ∧ Aside0 (Below w.heap.size w wc))
                  case first =>
                    have H := HC13.out
                    clear HC13
                    by_cases c14 : a0 < (wrap64 ((wrap64 (((rd_T47 l1 x14_1).f0) + x7_1)) + (((rd_T47 l1 x14_1).f2).size : Int)))
                    · rw [if_pos c14] at H
                      have c14b0 : decide (a0 < (wrap64 ((wrap64 (((rd_T47 l1 x14_1).f0) + x7_1)) + (((rd_T47 l1 x14_1).f2).size : Int)))) = true := decide_eq_true c14
                      clear c14
                      (first | rw [c14b0] | (simp only [i64_w, i32_w]; rw [c14b0]) | skip)
                      have H' := Aside0.mk H
                      clear H
                      go_wp2
                      go_meet
                      case rel => exact ⟨_, (true), (by first | rfl | (simp; done) | (simp [*]; done)), H', ⟨by have := HK1.out; have := HJ6.out; first | omega | exact Nat.le_refl _⟩, ⟨by (with_reducible repeat (first | refine blk_drewN ?_ _ | refine blk_drew ?_ | refine blk_alloc ?_ _)); exact BK235.out⟩, ⟨by repeat (first | (with_reducible first | exact HB.out | apply below_alloc | apply pw_below_drewN | apply below_drew1 | refine below_set ?_ GE235.out) | exact HB.out)⟩⟩
                    · rw [if_neg c14] at H
                      have c14b0 : decide (a0 < (wrap64 ((wrap64 (((rd_T47 l1 x14_1).f0) + x7_1)) + (((rd_T47 l1 x14_1).f2).size : Int)))) = false := decide_eq_false c14
                      clear c14
                      (first | rw [c14b0] | (simp only [i64_w, i32_w]; rw [c14b0]) | skip)
                      by_cases c15 : a0 = (wrap64 ((wrap64 (((rd_T47 l1 x14_1).f0) + x7_1)) + (((rd_T47 l1 x14_1).f2).size : Int)))
                      · rw [if_pos c15] at H
                        have c15b0 : (a0 == (wrap64 ((wrap64 (((rd_T47 l1 x14_1).f0) + x7_1)) + (((rd_T47 l1 x14_1).f2).size : Int)))) = true := beq_iff_eq.mpr c15
                        have c15b1 : (a0 != (wrap64 ((wrap64 (((rd_T47 l1 x14_1).f0) + x7_1)) + (((rd_T47 l1 x14_1).f2).size : Int)))) = false := bne_eq_false_iff_eq.mpr c15
                        clear c15
                        have H' := Aside0.mk H
                        clear H
                        go_wp2
                        go_meet
                        case rel => exact ⟨_, (a2), (by first | rfl | (simp; done) | (simp [*]; done)), H', ⟨by have := HK1.out; have := HJ6.out; first | omega | exact Nat.le_refl _⟩, ⟨by (with_reducible repeat (first | refine blk_drewN ?_ _ | refine blk_drew ?_ | refine blk_alloc ?_ _)); exact BK235.out⟩, ⟨by repeat (first | (with_reducible first | exact HB.out | apply below_alloc | apply pw_below_drewN | apply below_drew1 | refine below_set ?_ GE235.out) | exact HB.out)⟩⟩
                      · rw [if_neg c15] at H
                        have c15b0 : (a0 == (wrap64 ((wrap64 (((rd_T47 l1 x14_1).f0) + x7_1)) + (((rd_T47 l1 x14_1).f2).size : Int)))) = false := beq_eq_false_iff_ne.mpr c15
                        have c15b1 : (a0 != (wrap64 ((wrap64 (((rd_T47 l1 x14_1).f0) + x7_1)) + (((rd_T47 l1 x14_1).f2).size : Int)))) = true := bne_iff_ne.mpr c15
                        have H' := Aside0.mk H
                        clear H
                        go_wp2
                        go_meet
                        case rel => exact ⟨_, (false), (by first | rfl | (simp; done) | (simp [*]; done)), H', ⟨by have := HK1.out; have := HJ6.out; first | omega | exact Nat.le_refl _⟩, ⟨by (with_reducible repeat (first | refine blk_drewN ?_ _ | refine blk_drew ?_ | refine blk_alloc ?_ _)); exact BK235.out⟩, ⟨by repeat (first | (with_reducible first | exact HB.out | apply below_alloc | apply pw_below_drewN | apply below_drew1 | refine below_set ?_ GE235.out) | exact HB.out)⟩⟩
                  case rest =>
                    clear HC13
                    try clear c1
                    try clear p2
                    try clear q2
                    try clear hx2
                    try clear c3
                    try clear c4
                    try clear c4b0
                    try clear c5
                    try clear c5b0
                    try clear c6
                    try clear c6b0
                    try clear p6
                    try clear c10
                    try clear c10b0
                    try clear c11
                    try clear c11b0
                    try clear c11b1
                    try clear c12
                    try clear c14
                    try clear c14b0
                    try clear c15
                    try clear c15b0
                    try clear c15b1
                    try clear hcz9_0
                    try clear hcz9_1
                    try clear hcz9_2
                    try clear hfz9_0
                    try clear hfz9_1
                    try clear hfz9_2
                    try clear hx234_0
                    try clear hx234_1
                    try clear hx234_2
                    try clear p2
                    try clear p234
                    try clear p6
                    try clear q2
                    try clear q234
                    obtain ⟨kq, x49_12, rfl, HA, HJ12, BK235, HB⟩ := hcut
                    cases kq with
                    | zero => exact absurd HA.out (by simp [edit_ahead.j2])
                    | succ kj12 =>
                      have H := HA.out
                      clear HA
                      simp only [edit_ahead.j2] at H
                      by_cases c16 : x49_12 = true
                      · subst c16
                        have H1 : (if a2 = true then (some ((rd_T47 l1 x14_1).f1)) else (some ((rd_T47 l1 x14_1).f0))) = some r := by rw [if_pos rfl] at H; exact H
                        clear H
                        have H := H1
                        clear H1
                        by_cases c17 : a2 = true
                        · subst c17
                          have H1 : (some ((rd_T47 l1 x14_1).f1)) = some r := by rw [if_pos rfl] at H; exact H
                          clear H
                          have H := H1
                          clear H1
                          obtain rfl := Option.some.inj H
                          have hcz18_0 : wc.cell? ⟨gb235, 0, none⟩ = some (.int .i64 ((rd_T47 l1 x14_1).f0)) := (blk_cell BK235.out 0).trans rfl
                          have hcz18_1 : wc.cell? ⟨gb235, 1, none⟩ = some (.int .i64 ((rd_T47 l1 x14_1).f1)) := (blk_cell BK235.out 1).trans rfl
                          have hcz18_2 : wc.cell? ⟨gb235, 2, none⟩ = some (.string ((rd_T47 l1 x14_1).f2)) := (blk_cell BK235.out 2).trans rfl
                          have hfz18_0 := blk_frozen BK235.out 0
                          have hfz18_1 := blk_frozen BK235.out 1
                          have hfz18_2 := blk_frozen BK235.out 2
                          go_wp2
                          go_ret
                          exact ⟨by first | rfl | (simp [errW_none, errW_some] <;> rfl) | (simp [*, errW_none, errW_some] <;> rfl), by repeat (first | (with_reducible first | exact HB.out | apply below_alloc | apply pw_below_drewN | apply below_drew1 | refine below_set ?_ GE235.out) | exact HB.out)⟩
                        · replace c17 := Bool.eq_false_iff.mpr c17
                          subst c17
                          have H1 : (some ((rd_T47 l1 x14_1).f0)) = some r := by rw [if_neg (show ¬ (false = true) by decide)] at H; exact H
                          clear H
                          have H := H1
                          clear H1
                          obtain rfl := Option.some.inj H
                          have hcz19_0 : wc.cell? ⟨gb235, 0, none⟩ = some (.int .i64 ((rd_T47 l1 x14_1).f0)) := (blk_cell BK235.out 0).trans rfl
                          have hcz19_1 : wc.cell? ⟨gb235, 1, none⟩ = some (.int .i64 ((rd_T47 l1 x14_1).f1)) := (blk_cell BK235.out 1).trans rfl
                          have hcz19_2 : wc.cell? ⟨gb235, 2, none⟩ = some (.string ((rd_T47 l1 x14_1).f2)) := (blk_cell BK235.out 2).trans rfl
                          have hfz19_0 := blk_frozen BK235.out 0
                          have hfz19_1 := blk_frozen BK235.out 1
                          have hfz19_2 := blk_frozen BK235.out 2
                          go_wp2
                          go_ret
                          exact ⟨by first | rfl | (simp [errW_none, errW_some] <;> rfl) | (simp [*, errW_none, errW_some] <;> rfl), by repeat (first | (with_reducible first | exact HB.out | apply below_alloc | apply pw_below_drewN | apply below_drew1 | refine below_set ?_ GE235.out) | exact HB.out)⟩
                      · replace c16 := Bool.eq_false_iff.mpr c16
                        subst c16
                        have H1 : (edit_ahead.l0 kj12 a0 a2 (wrap64 (x7_1 + (wrap64 ((((rd_T47 l1 x14_1).f2).size : Int) - (wrap64 (((rd_T47 l1 x14_1).f1) - ((rd_T47 l1 x14_1).f0))))))) l1 (l1.length : Int) (wrap64 (x14_1 + 1))) = some r := by rw [if_neg (show ¬ (false = true) by decide)] at H; exact H
                        clear H
                        have H := H1
                        clear H1
                        have H' := Aside0.mk H
                        clear H
                        have hcz20_0 : wc.cell? ⟨gb235, 0, none⟩ = some (.int .i64 ((rd_T47 l1 x14_1).f0)) := (blk_cell BK235.out 0).trans rfl
                        have hcz20_1 : wc.cell? ⟨gb235, 1, none⟩ = some (.int .i64 ((rd_T47 l1 x14_1).f1)) := (blk_cell BK235.out 1).trans rfl
                        have hcz20_2 : wc.cell? ⟨gb235, 2, none⟩ = some (.string ((rd_T47 l1 x14_1).f2)) := (blk_cell BK235.out 2).trans rfl
                        have hfz20_0 := blk_frozen BK235.out 0
                        have hfz20_1 := blk_frozen BK235.out 1
                        have hfz20_2 := blk_frozen BK235.out 2
                        go_wp2
                        go_roundg kj12
                        case measure => have := HK1.out; have := HJ6.out; have := HJ12.out; omega
                        case rel => exact ⟨(wrap64 (x7_1 + (wrap64 ((((rd_T47 l1 x14_1).f2).size : Int) - (wrap64 (((rd_T47 l1 x14_1).f1) - ((rd_T47 l1 x14_1).f0))))))), (wrap64 (x14_1 + 1)), (by first | rfl | (simp; done) | (simp [*]; done)), (by first | rfl | (simp; done) | (simp [*]; done)), H', ⟨by have := HK1.out; have := HJ6.out; have := HJ12.out; omega⟩, ⟨by repeat (first | (with_reducible first | exact HB.out | apply below_alloc | apply pw_below_drewN | apply below_drew1 | refine below_set ?_ GE235.out) | exact HB.out)⟩⟩
          · rw [if_neg c6] at H
            exact absurd H (by simp)
        · rw [if_neg c5] at H
          exact absurd H (by simp)
      · rw [if_neg c4] at H
        have c4b0 : decide (x14_1 < (l1.length : Int)) = false := decide_eq_false c4
        clear c4
        obtain rfl := Option.some.inj H
        go_wp2
        go_ret
        exact ⟨by first | rfl | (simp [errW_none, errW_some] <;> rfl) | (simp [*, errW_none, errW_some] <;> rfl), by repeat (first | (with_reducible first | exact HB.out | apply below_alloc | apply pw_below_drewN | apply below_drew1) | exact HB.out)⟩

end Go.Proofs.Ytmgeheomokjimaa.PAll
