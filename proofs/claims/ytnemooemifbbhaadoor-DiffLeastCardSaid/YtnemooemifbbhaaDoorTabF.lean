/- Several texts of this session's, one behind the other: what each proves stands ahead of it. -/
import Derived.Test.YtnemooemifbbhaaDoorFill
import Derived.Test.YtnemooemifbbhaaDoorTabD
import Derived.Test.YtnemooemifbbhaaDoorTabB
/- The greatest common row is walked along the table: a walk. Conditions: the lists as the theorem says. -/
namespace Go.Proofs.YtnemooemifbbhaaDoor.Fill
open Go Go.RowKit Go.Proofs.YtnemooemifbbhaaDoorW.PrintWords Go.Proofs.YtnemooemifbbhaaDoorW.PrintLast Go.Proofs.YtnemooemifbbhaaDoorW.PrintMore Go.Proofs.YtnemooemifbbhaaDoor.PDL
attribute [local go_sem] max2_int min2_int max_two min_two max_three min_three max_four min_four   -- for this text's walks alone
set_option linter.unusedVariables false
set_option linter.unusedSimpArgs false

/-! ### diff_Common: function 14 -/
mutual
def diff_Common.l0 : Nat → List ByteArray → List ByteArray → List (List Int) → List (S36) → Int → Int → Option ((List (S36)))
  | 0, _, _, _, _, _, _ => none
  | k + 1, x0, x1, x5, x6, x7, x8 => if x7 < (x0.length : Int) then (diff_Common.j1 k x0 x1 x5 x6 x7 x8 (decide (x8 < (x1.length : Int)))) else (diff_Common.j1 k x0 x1 x5 x6 x7 x8 false)
def diff_Common.j1 : Nat → List ByteArray → List ByteArray → List (List Int) → List (S36) → Int → Int → Bool → Option ((List (S36)))
  | 0, _, _, _, _, _, _, _ => none
  | k + 1, x0, x1, x5, x6, x7, x8, x21 => if x21 = true then (if 0 ≤ x7 then (if x7 < (x0.length : Int) then (if 0 ≤ x8 then (if x8 < (x1.length : Int) then (if (rdOf ByteArray.empty x0 x7).toList = (rdOf ByteArray.empty x1 x8).toList then (if x6.length < 8796093022208 then (diff_Common.l0 k x0 x1 x5 (x6 ++ [(⟨x7, x8⟩ : S36)]) (wrap64 (x7 + 1)) (wrap64 (x8 + 1))) else (none)) else ((diff_table_at.f x5 (wrap64 (x7 + 1)) x8).bind fun t162 => ((diff_table_at.f x5 x7 (wrap64 (x8 + 1))).bind fun t163 => (if t162 ≥ t163 then (diff_Common.l0 k x0 x1 x5 x6 (wrap64 (x7 + 1)) x8) else (diff_Common.l0 k x0 x1 x5 x6 x7 (wrap64 (x8 + 1))))))) else (none)) else (none)) else (none)) else (none)) else (some x6)
end
def diff_Common.f (k : Nat) (l0 : List ByteArray) (l1 : List ByteArray) : Option ((List (S36))) := (diff_fill.f k l0 l1).bind fun t154 => (diff_Common.l0 k l0 l1 t154 ([] : List (S36)) 0 0)
theorem diff_Common.mono_l : ∀ k, (∀ y0 y1 y2 y3 y4 y5, LeO (diff_Common.l0 k y0 y1 y2 y3 y4 y5) (diff_Common.l0 (k + 1) y0 y1 y2 y3 y4 y5)) ∧ (∀ y0 y1 y2 y3 y4 y5 y6, LeO (diff_Common.j1 k y0 y1 y2 y3 y4 y5 y6) (diff_Common.j1 (k + 1) y0 y1 y2 y3 y4 y5 y6))
  | 0 => ⟨fun _ _ _ _ _ _ r h => by simp [diff_Common.l0] at h, fun _ _ _ _ _ _ _ r h => by simp [diff_Common.j1] at h⟩
  | k + 1 => by
    obtain ⟨ih0, ih1⟩ := diff_Common.mono_l k
    refine ⟨?_, ?_⟩
    · intro y0 y1 y2 y3 y4 y5
      unfold diff_Common.l0
      repeat' first
      | (with_reducible exact ih0 _ _ _ _ _ _)
      | (with_reducible exact ih1 _ _ _ _ _ _ _)
      | (with_reducible exact diff_fill.mono _ _ _)
      | (with_reducible exact LeO.refl _)
      | (with_reducible exact LeO.none _)
      | (with_reducible refine LeO.ite ?_ ?_)
      | (with_reducible refine LeO.bind ?_ (fun _ => ?_))
      | exact ih0 _ _ _ _ _ _
      | exact ih1 _ _ _ _ _ _ _
      | exact diff_fill.mono _ _ _
      | exact LeO.none _
      | refine LeO.ite ?_ ?_
      | refine LeO.bind ?_ (fun _ => ?_)
    · intro y0 y1 y2 y3 y4 y5 y6
      unfold diff_Common.j1
      repeat' first
      | (with_reducible exact ih0 _ _ _ _ _ _)
      | (with_reducible exact ih1 _ _ _ _ _ _ _)
      | (with_reducible exact diff_fill.mono _ _ _)
      | (with_reducible exact LeO.refl _)
      | (with_reducible exact LeO.none _)
      | (with_reducible refine LeO.ite ?_ ?_)
      | (with_reducible refine LeO.bind ?_ (fun _ => ?_))
      | exact ih0 _ _ _ _ _ _
      | exact ih1 _ _ _ _ _ _ _
      | exact diff_fill.mono _ _ _
      | exact LeO.none _
      | refine LeO.ite ?_ ?_
      | refine LeO.bind ?_ (fun _ => ?_)
theorem diff_Common.mono : ∀ a0 a1 k, LeO (diff_Common.f k a0 a1) (diff_Common.f (k + 1) a0 a1) := by
  intro a0 a1 k
  obtain ⟨ih0, ih1⟩ := diff_Common.mono_l k
  unfold diff_Common.f
  repeat' first
      | (with_reducible exact ih0 _ _ _ _ _ _)
      | (with_reducible exact ih1 _ _ _ _ _ _ _)
      | (with_reducible exact diff_fill.mono _ _ _)
      | (with_reducible exact LeO.refl _)
      | (with_reducible exact LeO.none _)
      | (with_reducible refine LeO.ite ?_ ?_)
      | (with_reducible refine LeO.bind ?_ (fun _ => ?_))
      | exact ih0 _ _ _ _ _ _
      | exact ih1 _ _ _ _ _ _ _
      | exact diff_fill.mono _ _ _
      | exact LeO.none _
      | refine LeO.ite ?_ ?_
      | refine LeO.bind ?_ (fun _ => ?_)
set_option maxHeartbeats 8000000 in
set_option maxRecDepth 100000 in
theorem diff_Common.calls (k : Nat) (A0 : Option Addr) (c0 : Nat) (l0 : List ByteArray) (A1 : Option Addr) (c1 : Nat) (l1 : List ByteArray) (r : List (S36)) (w : World) (hr0 : Kd.C Kd.string w A0 l0.length l0) (hc0 : l0.length ≤ c0) (hr1 : Kd.C Kd.string w A1 l1.length l1) (hc1 : l1.length ≤ c1) (h : diff_Common.f k l0 l1 = some r) :
    Calls Tryd.prog 14 #[.slice A0 l0.length c0, .slice A1 l1.length c1] w fun e w' => ∃ v0_ : Value, e = .returned (v0_) ∧ Kd.R k36 36 w' w.heap.size (fun _ => True) v0_ r ∧ Below w.heap.size w w' := by
  have hu36 := Tryd.underlying36
  have HR0 := Aside0.mk hr0
  have HC0 := Aside0.mk hc0
  clear hr0 hc0
  have HR1 := Aside0.mk hr1
  have HC1 := Aside0.mk hc1
  clear hr1 hc1
  have HB := Aside0.mk (Below.refl w.heap.size w)
  have H : ((diff_fill.f k l0 l1).bind fun t154 => (diff_Common.l0 k l0 l1 t154 ([] : List (S36)) 0 0)) = some r := h
  clear h
  replace H := Option.bind_eq_some_iff.mp H
  obtain ⟨t154, A30, H⟩ := H
  replace H : (diff_Common.l0 k l0 l1 t154 ([] : List (S36)) 0 0) = some r := H
  have A3 := Aside0.mk A30
  clear A30
  have H' := Aside0.mk H
  clear H
  go_enter Tryd.func14, Tryd.ntmps14
  go_wp2_with (first | (go_at_call 31; (with_reducible refine (diff_fill.calls k _ _ l0 _ _ l1 t154 _ ?side1 ?side2 ?side3 ?side4 A3.out).mono ?_); (case side1 => repeat (first | exact HR0.out | (with_reducible refine Kd.C_alloc ?_ _) | (with_reducible refine Kd.C_drewN ?_ _) | (with_reducible refine Kd.C_drew ?_))); (case side2 => exact HC0.out); (case side3 => repeat (first | exact HR1.out | (with_reducible refine Kd.C_alloc ?_ _) | (with_reducible refine Kd.C_drewN ?_ _) | (with_reducible refine Kd.C_drew ?_))); (case side4 => exact HC1.out); rintro e w4 ⟨gT, AT, cT, rfl, hB0, ho0, hb⟩; have BT := Aside0.mk hB0; clear hB0; have n0_ := Aside0.mk (Kd.S_lower ho0 (below_size (by repeat (first | (with_reducible first | exact HB.out | apply below_alloc | apply pw_below_drewN | apply below_drew1) | exact HB.out)))); have n1_ := Aside0.mk (below_step (by repeat (first | (with_reducible first | exact HB.out | apply below_alloc | apply pw_below_drewN | apply below_drew1) | exact HB.out)) hb); clear HB; have HO156 := n0_; have HB := n1_; clear n0_ n1_; (try clear hb); (try clear hb2); (try clear hk); (try clear hi); (try clear ho0)))
  repeat (go_quiet (first | (go_at_call 31; (with_reducible refine (diff_fill.calls k _ _ l0 _ _ l1 t154 _ ?side1 ?side2 ?side3 ?side4 A3.out).mono ?_); (case side1 => repeat (first | exact HR0.out | (with_reducible refine Kd.C_alloc ?_ _) | (with_reducible refine Kd.C_drewN ?_ _) | (with_reducible refine Kd.C_drew ?_))); (case side2 => exact HC0.out); (case side3 => repeat (first | exact HR1.out | (with_reducible refine Kd.C_alloc ?_ _) | (with_reducible refine Kd.C_drewN ?_ _) | (with_reducible refine Kd.C_drew ?_))); (case side4 => exact HC1.out); rintro e w4 ⟨gT, AT, cT, rfl, hB0, ho0, hb⟩; have BT := Aside0.mk hB0; clear hB0; have n0_ := Aside0.mk (Kd.S_lower ho0 (below_size (by repeat (first | (with_reducible first | exact HB.out | apply below_alloc | apply pw_below_drewN | apply below_drew1) | exact HB.out)))); have n1_ := Aside0.mk (below_step (by repeat (first | (with_reducible first | exact HB.out | apply below_alloc | apply pw_below_drewN | apply below_drew1) | exact HB.out)) hb); clear HB; have HO156 := n0_; have HB := n1_; clear n0_ n1_; (try clear hb); (try clear hb2); (try clear hk); (try clear hi); (try clear ho0))); try go_wp2_with (first | (go_at_call 31; (with_reducible refine (diff_fill.calls k _ _ l0 _ _ l1 t154 _ ?side1 ?side2 ?side3 ?side4 A3.out).mono ?_); (case side1 => repeat (first | exact HR0.out | (with_reducible refine Kd.C_alloc ?_ _) | (with_reducible refine Kd.C_drewN ?_ _) | (with_reducible refine Kd.C_drew ?_))); (case side2 => exact HC0.out); (case side3 => repeat (first | exact HR1.out | (with_reducible refine Kd.C_alloc ?_ _) | (with_reducible refine Kd.C_drewN ?_ _) | (with_reducible refine Kd.C_drew ?_))); (case side4 => exact HC1.out); rintro e w4 ⟨gT, AT, cT, rfl, hB0, ho0, hb⟩; have BT := Aside0.mk hB0; clear hB0; have n0_ := Aside0.mk (Kd.S_lower ho0 (below_size (by repeat (first | (with_reducible first | exact HB.out | apply below_alloc | apply pw_below_drewN | apply below_drew1) | exact HB.out)))); have n1_ := Aside0.mk (below_step (by repeat (first | (with_reducible first | exact HB.out | apply below_alloc | apply pw_below_drewN | apply below_drew1) | exact HB.out)) hb); clear HB; have HO156 := n0_; have HB := n1_; clear n0_ n1_; (try clear hb); (try clear hb2); (try clear hk); (try clear hi); (try clear ho0))))
  go_loopg [6, 7, 8] k (fun kq v6 v7 v8 w' => ∃ (x6_1 : List (S36)) (x7_1 : Int) (x8_1 : Int), v7 = .int .i64 x7_1 ∧ v8 = .int .i64 x8_1 ∧ Aside0 (diff_Common.l0 kq l0 l1 t154 x6_1 x7_1 x8_1 = some r) ∧ Aside0 (kq ≤ k) ∧ Aside0 (Kd.S (Kd.slice 3 (Kd.int .i64)) 37 w' w.heap.size (fun _ => True) (.slice AT t154.length cT) t154) ∧ Aside0 (Kd.R k36 36 w' w.heap.size (fun _ => True) v6 x6_1) ∧ Aside0 (Below w.heap.size w w') ∧ Aside0 (w'.heap[gT]? = some (.cells #[.slice A0 l0.length c0, .slice A1 l1.length c1, .slice AT t154.length cT] 95 (0, 0))))
  case atStart => exact ⟨(([] : List (S36))), (0), (0), (by first | rfl | (simp; done) | (simp [*]; done)), (by first | rfl | (simp; done) | (simp [*]; done)), H', ⟨Nat.le_refl _⟩, ⟨by (with_reducible repeat (first | apply Kd.S_alloc | apply Kd.S_drewN | apply Kd.S_drew)); exact HO156.out⟩, ⟨by first | exact Kd.R_nil _ _ _ _ _ | exact Kd.N_nil _ _ _ _ _ | exact Kd.V_nil _ _ _ _ _ | exact Kd.Q_nil _ _ _ _ _ | exact Kd.S_nil _ _ _ _ _⟩, ⟨by repeat (first | (with_reducible first | exact HB.out | apply below_alloc | apply pw_below_drewN | apply below_drew1) | exact HB.out)⟩, ⟨by first | exact BT.out | exact blk_drewN BT.out _ | exact blk_below BT.out hbA.out⟩⟩
  case round =>
    clear H'
    try clear c1
    try clear p2
    obtain ⟨x6_1, x7_1, x8_1, rfl, rfl, HA, HK1, HO_5, HO_6, HB, BT⟩ := hrel
    cases gk with
    | zero => exact absurd HA.out (by simp [diff_Common.l0])
    | succ k1 =>
      have H := HA.out
      clear HA
      simp only [diff_Common.l0] at H
      have HC5 := Aside0.mk H
      clear H
      go_upto_region 4 with (fail)
      repeat (go_quiet (fail); go_upto_region 4 with (fail))
      go_cut [21] (fun v21 wc => ∃ (kq : Nat) (x21_4 : Bool), v21 = .bool x21_4 ∧ Aside0 (diff_Common.j1 kq l0 l1 t154 x6_1 x7_1 x8_1 x21_4 = some r) ∧ Aside0 (kq ≤ k1) ∧ Aside0 (Kd.S (Kd.slice 3 (Kd.int .i64)) 37 wc w.heap.size (fun _ => True) (.slice AT t154.length cT) t154) ∧ Aside0 (Kd.R k36 36 wc w.heap.size (fun _ => True) u6 x6_1) ∧ Aside0 (Below w.heap.size w wc) ∧ Aside0 (wc.heap[gT]? = some (.cells #[.slice A0 l0.length c0, .slice A1 l1.length c1, .slice AT t154.length cT] 95 (0, 0))))
      case first =>
        have H := HC5.out
        clear HC5
        by_cases c6 : x7_1 < (l0.length : Int)
        · rw [if_pos c6] at H
          have c6b0 : decide (x7_1 < (l0.length : Int)) = true := decide_eq_true c6
          clear c6
          (first | rw [c6b0] | (simp only [i64_w, i32_w]; rw [c6b0]) | skip)
          have H' := Aside0.mk H
          clear H
          go_wp2
          repeat (go_quiet (fail); try go_wp2)
          go_meet
          case rel => exact ⟨_, (decide (x8_1 < (l1.length : Int))), (by first | rfl | (simp; done) | (simp [*]; done)), H', ⟨by have := HK1.out; first | omega | exact Nat.le_refl _⟩, ⟨by (with_reducible repeat (first | apply Kd.S_alloc | apply Kd.S_drewN | apply Kd.S_drew)); exact HO_5.out⟩, ⟨by (with_reducible repeat (first | apply Kd.R_alloc | apply Kd.R_drewN | apply Kd.R_drew)); exact HO_6.out⟩, ⟨by repeat (first | (with_reducible first | exact HB.out | apply below_alloc | apply pw_below_drewN | apply below_drew1) | exact HB.out)⟩, ⟨by first | exact BT.out | exact blk_drewN BT.out _ | exact blk_below BT.out hbA.out⟩⟩
        · rw [if_neg c6] at H
          have c6b0 : decide (x7_1 < (l0.length : Int)) = false := decide_eq_false c6
          clear c6
          (first | rw [c6b0] | (simp only [i64_w, i32_w]; rw [c6b0]) | skip)
          have H' := Aside0.mk H
          clear H
          go_wp2
          repeat (go_quiet (fail); try go_wp2)
          go_meet
          case rel => exact ⟨_, (false), (by first | rfl | (simp; done) | (simp [*]; done)), H', ⟨by have := HK1.out; first | omega | exact Nat.le_refl _⟩, ⟨by (with_reducible repeat (first | apply Kd.S_alloc | apply Kd.S_drewN | apply Kd.S_drew)); exact HO_5.out⟩, ⟨by (with_reducible repeat (first | apply Kd.R_alloc | apply Kd.R_drewN | apply Kd.R_drew)); exact HO_6.out⟩, ⟨by repeat (first | (with_reducible first | exact HB.out | apply below_alloc | apply pw_below_drewN | apply below_drew1) | exact HB.out)⟩, ⟨by first | exact BT.out | exact blk_drewN BT.out _ | exact blk_below BT.out hbA.out⟩⟩
      case rest =>
        clear HC5
        try clear c1
        try clear p2
        try clear c6
        try clear c6b0
        try clear p2
        obtain ⟨kq, x21_4, rfl, HA, HJ4, HO_5, HO_6, HB, BT⟩ := hcut
        cases kq with
        | zero => exact absurd HA.out (by simp [diff_Common.j1])
        | succ kj4 =>
          have H := HA.out
          clear HA
          simp only [diff_Common.j1] at H
          by_cases c7 : x21_4 = true
          · subst c7
            have H1 : (if 0 ≤ x7_1 then (if x7_1 < (l0.length : Int) then (if 0 ≤ x8_1 then (if x8_1 < (l1.length : Int) then (if (rdOf ByteArray.empty l0 x7_1).toList = (rdOf ByteArray.empty l1 x8_1).toList then (if x6_1.length < 8796093022208 then (diff_Common.l0 kj4 l0 l1 t154 (x6_1 ++ [(⟨x7_1, x8_1⟩ : S36)]) (wrap64 (x7_1 + 1)) (wrap64 (x8_1 + 1))) else (none)) else ((diff_table_at.f t154 (wrap64 (x7_1 + 1)) x8_1).bind fun t162 => ((diff_table_at.f t154 x7_1 (wrap64 (x8_1 + 1))).bind fun t163 => (if t162 ≥ t163 then (diff_Common.l0 kj4 l0 l1 t154 x6_1 (wrap64 (x7_1 + 1)) x8_1) else (diff_Common.l0 kj4 l0 l1 t154 x6_1 x7_1 (wrap64 (x8_1 + 1))))))) else (none)) else (none)) else (none)) else (none)) = some r := by rw [if_pos rfl] at H; exact H
            clear H
            have H := H1
            clear H1
            by_cases c8 : 0 ≤ x7_1
            · rw [if_pos c8] at H
              have c8b0 : decide (0 ≤ x7_1) = true := decide_eq_true c8
              clear c8
              by_cases c9 : x7_1 < (l0.length : Int)
              · rw [if_pos c9] at H
                have c9b0 : decide (x7_1 < (l0.length : Int)) = true := decide_eq_true c9
                clear c9
                by_cases c10 : 0 ≤ x8_1
                · rw [if_pos c10] at H
                  have c10b0 : decide (0 ≤ x8_1) = true := decide_eq_true c10
                  clear c10
                  by_cases c11 : x8_1 < (l1.length : Int)
                  · rw [if_pos c11] at H
                    have c11b0 : decide (x8_1 < (l1.length : Int)) = true := decide_eq_true c11
                    clear c11
                    by_cases c12 : (rdOf ByteArray.empty l0 x7_1).toList = (rdOf ByteArray.empty l1 x8_1).toList
                    · rw [if_pos c12] at H
                      have c12b0 : ((rdOf ByteArray.empty l0 x7_1).toList == (rdOf ByteArray.empty l1 x8_1).toList) = true := beq_iff_eq.mpr c12
                      have c12b1 : ((rdOf ByteArray.empty l0 x7_1).toList != (rdOf ByteArray.empty l1 x8_1).toList) = false := bne_eq_false_iff_eq.mpr c12
                      clear c12
                      by_cases c13 : x6_1.length < 8796093022208
                      · rw [if_pos c13] at H
                        have LMc13 := Aside0.mk c13
                        clear c13
                        obtain ⟨y159, hy159⟩ : ∃ y_ : List (S36), y_ = (x6_1 ++ [(⟨x7_1, x8_1⟩ : S36)]) := ⟨_, rfl⟩
                        replace H : (diff_Common.l0 kj4 l0 l1 t154 y159 (wrap64 (x7_1 + 1)) (wrap64 (x8_1 + 1))) = some r := by first | (rw [hy159]; with_reducible exact H) | (have H2_ := (Option.bind_some _ _).symm.trans H; rw [hy159]; with_reducible exact H2_) | (have H2_ := (Option.bind_some _ _).symm.trans H; with_reducible exact H2_) | with_reducible exact H | (rw [hy159]; exact H) | exact H
                        have Ny159 := Aside0.mk hy159
                        clear hy159
                        have H' := Aside0.mk H
                        clear H
                        have p157 : 0 ≤ (x7_1 : Int) := of_decide_eq_true (by first | (with_reducible assumption) | assumption)
                        have q157 : x7_1 < (l0.length : Int) := of_decide_eq_true (by first | (with_reducible assumption) | assumption)
                        obtain ⟨ad157, e157, hx157_0⟩ := Kd.at_string HR0.out x7_1 p157 q157
                        cases e157
                        replace hx157_0 := (HB.out.cell (World.block_lt_of_cell? w _ hx157_0)).trans hx157_0
                        replace p157 := eq_true p157
                        replace q157 := eq_true q157
                        have p158 : 0 ≤ (x8_1 : Int) := of_decide_eq_true (by first | (with_reducible assumption) | assumption)
                        have q158 : x8_1 < (l1.length : Int) := of_decide_eq_true (by first | (with_reducible assumption) | assumption)
                        obtain ⟨ad158, e158, hx158_0⟩ := Kd.at_string HR1.out x8_1 p158 q158
                        cases e158
                        replace hx158_0 := (HB.out.cell (World.block_lt_of_cell? w _ hx158_0)).trans hx158_0
                        replace p158 := eq_true p158
                        replace q158 := eq_true q158
                        go_wp2_with (first | ((with_reducible refine gate_builtin (b := .append) (xs := #[.tmp 34, .tmp 38]) rfl ?_); (try (refine gate_guard (by rfl) ?_; dsimp only)); at_builtin; refine Kd.R_append k36 (w0 := w) w.heap.size rfl (.tmp 34) (.tmp 38) 28 36 (.agg #[(.int .i64 0), (.int .i64 0)]) 16 rfl Tryd.underlying28 info36 rfl (by decide) (by omega) u6 x6_1 (⟨x7_1, x8_1⟩ : S36) [.int .i64 x7_1, .int .i64 x8_1] (fun _ => True) (fun _ => False) rfl rfl ?aP (fun _ hk => hk.elim) ?aF ?aO ?aB ?aS ?aL ?_; (case aP => exact k36_mkM _ _ _ (⟨x7_1, x8_1⟩ : S36)); (case aB => exact (by repeat (first | (with_reducible first | exact HB.out | apply below_alloc | apply pw_below_drewN | apply below_drew1) | exact HB.out))); (case aF => exact (fun _ _ => trivial)); (case aO => exact (by (with_reducible repeat (first | apply Kd.R_alloc | apply Kd.R_drewN | apply Kd.R_drew)); exact HO_6.out)); (case aS => exact (below_size (by repeat (first | (with_reducible first | exact HB.out | apply below_alloc | apply pw_below_drewN | apply below_drew1) | exact HB.out)))); (case aL => have := LMc13.out; omega); intro v160 w14 ho hb hg hat; rw [← Ny159.out] at ho; have hne_ : some gT ≠ u6.ownBlock := (fun e_ => (Kd.R_typed HO_6.out gT e_.symm).elim fun _ hc_ => blk_ne BT.out hc_ (by decide) rfl); have nB_ := Aside0.mk ((hg.block gT (blk_lt BT.out) hne_).trans BT.out); clear hne_; clear BT; have BT := nB_; clear nB_; have n0_ := Aside0.mk (Kd.S_over' (by (with_reducible repeat (first | apply Kd.S_alloc | apply Kd.S_drewN | apply Kd.S_drew)); exact HO_5.out) (Kd.R_typed (by (with_reducible repeat (first | apply Kd.R_alloc | apply Kd.R_drewN | apply Kd.R_drew)); exact HO_6.out)) (by decide) hg); have n1_ := Aside0.mk (hb); have n2_ := Aside0.mk (ho); clear HO_5; clear HB; clear HO_6; have HO_5 := n0_; have HB := n1_; have HO161 := n2_; clear n0_ n1_ n2_; clear ho hb hg hat))
                        repeat (go_quiet (first | ((with_reducible refine gate_builtin (b := .append) (xs := #[.tmp 34, .tmp 38]) rfl ?_); (try (refine gate_guard (by rfl) ?_; dsimp only)); at_builtin; refine Kd.R_append k36 (w0 := w) w.heap.size rfl (.tmp 34) (.tmp 38) 28 36 (.agg #[(.int .i64 0), (.int .i64 0)]) 16 rfl Tryd.underlying28 info36 rfl (by decide) (by omega) u6 x6_1 (⟨x7_1, x8_1⟩ : S36) [.int .i64 x7_1, .int .i64 x8_1] (fun _ => True) (fun _ => False) rfl rfl ?aP (fun _ hk => hk.elim) ?aF ?aO ?aB ?aS ?aL ?_; (case aP => exact k36_mkM _ _ _ (⟨x7_1, x8_1⟩ : S36)); (case aB => exact (by repeat (first | (with_reducible first | exact HB.out | apply below_alloc | apply pw_below_drewN | apply below_drew1) | exact HB.out))); (case aF => exact (fun _ _ => trivial)); (case aO => exact (by (with_reducible repeat (first | apply Kd.R_alloc | apply Kd.R_drewN | apply Kd.R_drew)); exact HO_6.out)); (case aS => exact (below_size (by repeat (first | (with_reducible first | exact HB.out | apply below_alloc | apply pw_below_drewN | apply below_drew1) | exact HB.out)))); (case aL => have := LMc13.out; omega); intro v160 w14 ho hb hg hat; rw [← Ny159.out] at ho; have hne_ : some gT ≠ u6.ownBlock := (fun e_ => (Kd.R_typed HO_6.out gT e_.symm).elim fun _ hc_ => blk_ne BT.out hc_ (by decide) rfl); have nB_ := Aside0.mk ((hg.block gT (blk_lt BT.out) hne_).trans BT.out); clear hne_; clear BT; have BT := nB_; clear nB_; have n0_ := Aside0.mk (Kd.S_over' (by (with_reducible repeat (first | apply Kd.S_alloc | apply Kd.S_drewN | apply Kd.S_drew)); exact HO_5.out) (Kd.R_typed (by (with_reducible repeat (first | apply Kd.R_alloc | apply Kd.R_drewN | apply Kd.R_drew)); exact HO_6.out)) (by decide) hg); have n1_ := Aside0.mk (hb); have n2_ := Aside0.mk (ho); clear HO_5; clear HB; clear HO_6; have HO_5 := n0_; have HB := n1_; have HO161 := n2_; clear n0_ n1_ n2_; clear ho hb hg hat)); try go_wp2_with (first | ((with_reducible refine gate_builtin (b := .append) (xs := #[.tmp 34, .tmp 38]) rfl ?_); (try (refine gate_guard (by rfl) ?_; dsimp only)); at_builtin; refine Kd.R_append k36 (w0 := w) w.heap.size rfl (.tmp 34) (.tmp 38) 28 36 (.agg #[(.int .i64 0), (.int .i64 0)]) 16 rfl Tryd.underlying28 info36 rfl (by decide) (by omega) u6 x6_1 (⟨x7_1, x8_1⟩ : S36) [.int .i64 x7_1, .int .i64 x8_1] (fun _ => True) (fun _ => False) rfl rfl ?aP (fun _ hk => hk.elim) ?aF ?aO ?aB ?aS ?aL ?_; (case aP => exact k36_mkM _ _ _ (⟨x7_1, x8_1⟩ : S36)); (case aB => exact (by repeat (first | (with_reducible first | exact HB.out | apply below_alloc | apply pw_below_drewN | apply below_drew1) | exact HB.out))); (case aF => exact (fun _ _ => trivial)); (case aO => exact (by (with_reducible repeat (first | apply Kd.R_alloc | apply Kd.R_drewN | apply Kd.R_drew)); exact HO_6.out)); (case aS => exact (below_size (by repeat (first | (with_reducible first | exact HB.out | apply below_alloc | apply pw_below_drewN | apply below_drew1) | exact HB.out)))); (case aL => have := LMc13.out; omega); intro v160 w14 ho hb hg hat; rw [← Ny159.out] at ho; have hne_ : some gT ≠ u6.ownBlock := (fun e_ => (Kd.R_typed HO_6.out gT e_.symm).elim fun _ hc_ => blk_ne BT.out hc_ (by decide) rfl); have nB_ := Aside0.mk ((hg.block gT (blk_lt BT.out) hne_).trans BT.out); clear hne_; clear BT; have BT := nB_; clear nB_; have n0_ := Aside0.mk (Kd.S_over' (by (with_reducible repeat (first | apply Kd.S_alloc | apply Kd.S_drewN | apply Kd.S_drew)); exact HO_5.out) (Kd.R_typed (by (with_reducible repeat (first | apply Kd.R_alloc | apply Kd.R_drewN | apply Kd.R_drew)); exact HO_6.out)) (by decide) hg); have n1_ := Aside0.mk (hb); have n2_ := Aside0.mk (ho); clear HO_5; clear HB; clear HO_6; have HO_5 := n0_; have HB := n1_; have HO161 := n2_; clear n0_ n1_ n2_; clear ho hb hg hat)))
                        go_roundg kj4
                        case measure => have := HK1.out; have := HJ4.out; omega
                        case rel => exact ⟨(y159), (wrap64 (x7_1 + 1)), (wrap64 (x8_1 + 1)), (by first | rfl | (simp; done) | (simp [*]; done)), (by first | rfl | (simp; done) | (simp [*]; done)), H', ⟨by have := HK1.out; have := HJ4.out; omega⟩, ⟨by (with_reducible repeat (first | apply Kd.S_alloc | apply Kd.S_drewN | apply Kd.S_drew)); exact HO_5.out⟩, ⟨by (with_reducible repeat (first | apply Kd.R_alloc | apply Kd.R_drewN | apply Kd.R_drew)); exact HO161.out⟩, ⟨by repeat (first | (with_reducible first | exact HB.out | apply below_alloc | apply pw_below_drewN | apply below_drew1) | exact HB.out)⟩, ⟨by first | exact BT.out | exact blk_drewN BT.out _ | exact blk_below BT.out hbA.out⟩⟩
                      · rw [if_neg c13] at H
                        exact absurd H (by simp)
                    · rw [if_neg c12] at H
                      have c12b0 : ((rdOf ByteArray.empty l0 x7_1).toList == (rdOf ByteArray.empty l1 x8_1).toList) = false := beq_eq_false_iff_ne.mpr c12
                      have c12b1 : ((rdOf ByteArray.empty l0 x7_1).toList != (rdOf ByteArray.empty l1 x8_1).toList) = true := bne_iff_ne.mpr c12
                      replace H := Option.bind_eq_some_iff.mp H
                      obtain ⟨t162, A150, H⟩ := H
                      replace H : ((diff_table_at.f t154 x7_1 (wrap64 (x8_1 + 1))).bind fun t163 => (if t162 ≥ t163 then (diff_Common.l0 kj4 l0 l1 t154 x6_1 (wrap64 (x7_1 + 1)) x8_1) else (diff_Common.l0 kj4 l0 l1 t154 x6_1 x7_1 (wrap64 (x8_1 + 1))))) = some r := H
                      have A15 := Aside0.mk A150
                      clear A150
                      replace H := Option.bind_eq_some_iff.mp H
                      obtain ⟨t163, A160, H⟩ := H
                      replace H : (if t162 ≥ t163 then (diff_Common.l0 kj4 l0 l1 t154 x6_1 (wrap64 (x7_1 + 1)) x8_1) else (diff_Common.l0 kj4 l0 l1 t154 x6_1 x7_1 (wrap64 (x8_1 + 1)))) = some r := H
                      have A16 := Aside0.mk A160
                      clear A160
                      by_cases c17 : t162 ≥ t163
                      · rw [if_pos c17] at H
                        have c17b0 : decide (t163 ≤ t162) = true := decide_eq_true c17
                        clear c17
                        have H' := Aside0.mk H
                        clear H
                        have p157 : 0 ≤ (x7_1 : Int) := of_decide_eq_true (by first | (with_reducible assumption) | assumption)
                        have q157 : x7_1 < (l0.length : Int) := of_decide_eq_true (by first | (with_reducible assumption) | assumption)
                        obtain ⟨ad157, e157, hx157_0⟩ := Kd.at_string HR0.out x7_1 p157 q157
                        cases e157
                        replace hx157_0 := (HB.out.cell (World.block_lt_of_cell? w _ hx157_0)).trans hx157_0
                        replace p157 := eq_true p157
                        replace q157 := eq_true q157
                        have p158 : 0 ≤ (x8_1 : Int) := of_decide_eq_true (by first | (with_reducible assumption) | assumption)
                        have q158 : x8_1 < (l1.length : Int) := of_decide_eq_true (by first | (with_reducible assumption) | assumption)
                        obtain ⟨ad158, e158, hx158_0⟩ := Kd.at_string HR1.out x8_1 p158 q158
                        cases e158
                        replace hx158_0 := (HB.out.cell (World.block_lt_of_cell? w _ hx158_0)).trans hx158_0
                        replace p158 := eq_true p158
                        replace q158 := eq_true q158
                        go_wp2_with (first | (go_at_call 32; (first | (with_reducible refine (at_calls _ _ _ _ _ t154 (wrap64 (x7_1 + 1)) x8_1 t162 _ BT.out ?side1 A15.out).mono ?_) | (with_reducible refine (at_calls _ _ _ _ _ t154 (wrap64 (x7_1 + 1)) x8_1 t162 _ (blk_drewN BT.out _) ?side1 A15.out).mono ?_)); (case side1 => repeat (first | exact (Kd.S_reads' HO_5.out).2.2 | (with_reducible refine Kd.C_alloc ?_ _) | (with_reducible refine Kd.C_drewN ?_ _) | (with_reducible refine Kd.C_drew ?_))); rintro e w' ⟨rfl, ⟨nd, rfl⟩⟩; (try first | exact ⟨rfl, _, World.drewN_drewN _ _ _⟩ | exact ⟨rfl, _, Eq.trans (World.drewN_drewN _ _ _) (congrArg (World.drewN _) (Nat.add_assoc _ _ _))⟩)) | (go_at_call 32; (first | (with_reducible refine (at_calls _ _ _ _ _ t154 x7_1 (wrap64 (x8_1 + 1)) t163 _ BT.out ?side1 A16.out).mono ?_) | (with_reducible refine (at_calls _ _ _ _ _ t154 x7_1 (wrap64 (x8_1 + 1)) t163 _ (blk_drewN BT.out _) ?side1 A16.out).mono ?_)); (case side1 => repeat (first | exact (Kd.S_reads' HO_5.out).2.2 | (with_reducible refine Kd.C_alloc ?_ _) | (with_reducible refine Kd.C_drewN ?_ _) | (with_reducible refine Kd.C_drew ?_))); rintro e w' ⟨rfl, ⟨nd, rfl⟩⟩; (try first | exact ⟨rfl, _, World.drewN_drewN _ _ _⟩ | exact ⟨rfl, _, Eq.trans (World.drewN_drewN _ _ _) (congrArg (World.drewN _) (Nat.add_assoc _ _ _))⟩)))
                        repeat (go_quiet (first | (go_at_call 32; (first | (with_reducible refine (at_calls _ _ _ _ _ t154 (wrap64 (x7_1 + 1)) x8_1 t162 _ BT.out ?side1 A15.out).mono ?_) | (with_reducible refine (at_calls _ _ _ _ _ t154 (wrap64 (x7_1 + 1)) x8_1 t162 _ (blk_drewN BT.out _) ?side1 A15.out).mono ?_)); (case side1 => repeat (first | exact (Kd.S_reads' HO_5.out).2.2 | (with_reducible refine Kd.C_alloc ?_ _) | (with_reducible refine Kd.C_drewN ?_ _) | (with_reducible refine Kd.C_drew ?_))); rintro e w' ⟨rfl, ⟨nd, rfl⟩⟩; (try first | exact ⟨rfl, _, World.drewN_drewN _ _ _⟩ | exact ⟨rfl, _, Eq.trans (World.drewN_drewN _ _ _) (congrArg (World.drewN _) (Nat.add_assoc _ _ _))⟩)) | (go_at_call 32; (first | (with_reducible refine (at_calls _ _ _ _ _ t154 x7_1 (wrap64 (x8_1 + 1)) t163 _ BT.out ?side1 A16.out).mono ?_) | (with_reducible refine (at_calls _ _ _ _ _ t154 x7_1 (wrap64 (x8_1 + 1)) t163 _ (blk_drewN BT.out _) ?side1 A16.out).mono ?_)); (case side1 => repeat (first | exact (Kd.S_reads' HO_5.out).2.2 | (with_reducible refine Kd.C_alloc ?_ _) | (with_reducible refine Kd.C_drewN ?_ _) | (with_reducible refine Kd.C_drew ?_))); rintro e w' ⟨rfl, ⟨nd, rfl⟩⟩; (try first | exact ⟨rfl, _, World.drewN_drewN _ _ _⟩ | exact ⟨rfl, _, Eq.trans (World.drewN_drewN _ _ _) (congrArg (World.drewN _) (Nat.add_assoc _ _ _))⟩))); try go_wp2_with (first | (go_at_call 32; (first | (with_reducible refine (at_calls _ _ _ _ _ t154 (wrap64 (x7_1 + 1)) x8_1 t162 _ BT.out ?side1 A15.out).mono ?_) | (with_reducible refine (at_calls _ _ _ _ _ t154 (wrap64 (x7_1 + 1)) x8_1 t162 _ (blk_drewN BT.out _) ?side1 A15.out).mono ?_)); (case side1 => repeat (first | exact (Kd.S_reads' HO_5.out).2.2 | (with_reducible refine Kd.C_alloc ?_ _) | (with_reducible refine Kd.C_drewN ?_ _) | (with_reducible refine Kd.C_drew ?_))); rintro e w' ⟨rfl, ⟨nd, rfl⟩⟩; (try first | exact ⟨rfl, _, World.drewN_drewN _ _ _⟩ | exact ⟨rfl, _, Eq.trans (World.drewN_drewN _ _ _) (congrArg (World.drewN _) (Nat.add_assoc _ _ _))⟩)) | (go_at_call 32; (first | (with_reducible refine (at_calls _ _ _ _ _ t154 x7_1 (wrap64 (x8_1 + 1)) t163 _ BT.out ?side1 A16.out).mono ?_) | (with_reducible refine (at_calls _ _ _ _ _ t154 x7_1 (wrap64 (x8_1 + 1)) t163 _ (blk_drewN BT.out _) ?side1 A16.out).mono ?_)); (case side1 => repeat (first | exact (Kd.S_reads' HO_5.out).2.2 | (with_reducible refine Kd.C_alloc ?_ _) | (with_reducible refine Kd.C_drewN ?_ _) | (with_reducible refine Kd.C_drew ?_))); rintro e w' ⟨rfl, ⟨nd, rfl⟩⟩; (try first | exact ⟨rfl, _, World.drewN_drewN _ _ _⟩ | exact ⟨rfl, _, Eq.trans (World.drewN_drewN _ _ _) (congrArg (World.drewN _) (Nat.add_assoc _ _ _))⟩))))
                        go_roundg kj4
                        case measure => have := HK1.out; have := HJ4.out; omega
                        case rel => exact ⟨(x6_1), (wrap64 (x7_1 + 1)), (x8_1), (by first | rfl | (simp; done) | (simp [*]; done)), (by first | rfl | (simp; done) | (simp [*]; done)), H', ⟨by have := HK1.out; have := HJ4.out; omega⟩, ⟨by (with_reducible repeat (first | apply Kd.S_alloc | apply Kd.S_drewN | apply Kd.S_drew)); exact HO_5.out⟩, ⟨by (with_reducible repeat (first | apply Kd.R_alloc | apply Kd.R_drewN | apply Kd.R_drew)); exact HO_6.out⟩, ⟨by repeat (first | (with_reducible first | exact HB.out | apply below_alloc | apply pw_below_drewN | apply below_drew1) | exact HB.out)⟩, ⟨by first | exact BT.out | exact blk_drewN BT.out _ | exact blk_below BT.out hbA.out⟩⟩
                      · rw [if_neg c17] at H
                        have c17b0 : decide (t163 ≤ t162) = false := decide_eq_false c17
                        clear c17
                        have H' := Aside0.mk H
                        clear H
                        have p157 : 0 ≤ (x7_1 : Int) := of_decide_eq_true (by first | (with_reducible assumption) | assumption)
                        have q157 : x7_1 < (l0.length : Int) := of_decide_eq_true (by first | (with_reducible assumption) | assumption)
                        obtain ⟨ad157, e157, hx157_0⟩ := Kd.at_string HR0.out x7_1 p157 q157
                        cases e157
                        replace hx157_0 := (HB.out.cell (World.block_lt_of_cell? w _ hx157_0)).trans hx157_0
                        replace p157 := eq_true p157
                        replace q157 := eq_true q157
                        have p158 : 0 ≤ (x8_1 : Int) := of_decide_eq_true (by first | (with_reducible assumption) | assumption)
                        have q158 : x8_1 < (l1.length : Int) := of_decide_eq_true (by first | (with_reducible assumption) | assumption)
                        obtain ⟨ad158, e158, hx158_0⟩ := Kd.at_string HR1.out x8_1 p158 q158
                        cases e158
                        replace hx158_0 := (HB.out.cell (World.block_lt_of_cell? w _ hx158_0)).trans hx158_0
                        replace p158 := eq_true p158
                        replace q158 := eq_true q158
                        go_wp2_with (first | (go_at_call 32; (first | (with_reducible refine (at_calls _ _ _ _ _ t154 (wrap64 (x7_1 + 1)) x8_1 t162 _ BT.out ?side1 A15.out).mono ?_) | (with_reducible refine (at_calls _ _ _ _ _ t154 (wrap64 (x7_1 + 1)) x8_1 t162 _ (blk_drewN BT.out _) ?side1 A15.out).mono ?_)); (case side1 => repeat (first | exact (Kd.S_reads' HO_5.out).2.2 | (with_reducible refine Kd.C_alloc ?_ _) | (with_reducible refine Kd.C_drewN ?_ _) | (with_reducible refine Kd.C_drew ?_))); rintro e w' ⟨rfl, ⟨nd, rfl⟩⟩; (try first | exact ⟨rfl, _, World.drewN_drewN _ _ _⟩ | exact ⟨rfl, _, Eq.trans (World.drewN_drewN _ _ _) (congrArg (World.drewN _) (Nat.add_assoc _ _ _))⟩)) | (go_at_call 32; (first | (with_reducible refine (at_calls _ _ _ _ _ t154 x7_1 (wrap64 (x8_1 + 1)) t163 _ BT.out ?side1 A16.out).mono ?_) | (with_reducible refine (at_calls _ _ _ _ _ t154 x7_1 (wrap64 (x8_1 + 1)) t163 _ (blk_drewN BT.out _) ?side1 A16.out).mono ?_)); (case side1 => repeat (first | exact (Kd.S_reads' HO_5.out).2.2 | (with_reducible refine Kd.C_alloc ?_ _) | (with_reducible refine Kd.C_drewN ?_ _) | (with_reducible refine Kd.C_drew ?_))); rintro e w' ⟨rfl, ⟨nd, rfl⟩⟩; (try first | exact ⟨rfl, _, World.drewN_drewN _ _ _⟩ | exact ⟨rfl, _, Eq.trans (World.drewN_drewN _ _ _) (congrArg (World.drewN _) (Nat.add_assoc _ _ _))⟩)))
                        repeat (go_quiet (first | (go_at_call 32; (first | (with_reducible refine (at_calls _ _ _ _ _ t154 (wrap64 (x7_1 + 1)) x8_1 t162 _ BT.out ?side1 A15.out).mono ?_) | (with_reducible refine (at_calls _ _ _ _ _ t154 (wrap64 (x7_1 + 1)) x8_1 t162 _ (blk_drewN BT.out _) ?side1 A15.out).mono ?_)); (case side1 => repeat (first | exact (Kd.S_reads' HO_5.out).2.2 | (with_reducible refine Kd.C_alloc ?_ _) | (with_reducible refine Kd.C_drewN ?_ _) | (with_reducible refine Kd.C_drew ?_))); rintro e w' ⟨rfl, ⟨nd, rfl⟩⟩; (try first | exact ⟨rfl, _, World.drewN_drewN _ _ _⟩ | exact ⟨rfl, _, Eq.trans (World.drewN_drewN _ _ _) (congrArg (World.drewN _) (Nat.add_assoc _ _ _))⟩)) | (go_at_call 32; (first | (with_reducible refine (at_calls _ _ _ _ _ t154 x7_1 (wrap64 (x8_1 + 1)) t163 _ BT.out ?side1 A16.out).mono ?_) | (with_reducible refine (at_calls _ _ _ _ _ t154 x7_1 (wrap64 (x8_1 + 1)) t163 _ (blk_drewN BT.out _) ?side1 A16.out).mono ?_)); (case side1 => repeat (first | exact (Kd.S_reads' HO_5.out).2.2 | (with_reducible refine Kd.C_alloc ?_ _) | (with_reducible refine Kd.C_drewN ?_ _) | (with_reducible refine Kd.C_drew ?_))); rintro e w' ⟨rfl, ⟨nd, rfl⟩⟩; (try first | exact ⟨rfl, _, World.drewN_drewN _ _ _⟩ | exact ⟨rfl, _, Eq.trans (World.drewN_drewN _ _ _) (congrArg (World.drewN _) (Nat.add_assoc _ _ _))⟩))); try go_wp2_with (first | (go_at_call 32; (first | (with_reducible refine (at_calls _ _ _ _ _ t154 (wrap64 (x7_1 + 1)) x8_1 t162 _ BT.out ?side1 A15.out).mono ?_) | (with_reducible refine (at_calls _ _ _ _ _ t154 (wrap64 (x7_1 + 1)) x8_1 t162 _ (blk_drewN BT.out _) ?side1 A15.out).mono ?_)); (case side1 => repeat (first | exact (Kd.S_reads' HO_5.out).2.2 | (with_reducible refine Kd.C_alloc ?_ _) | (with_reducible refine Kd.C_drewN ?_ _) | (with_reducible refine Kd.C_drew ?_))); rintro e w' ⟨rfl, ⟨nd, rfl⟩⟩; (try first | exact ⟨rfl, _, World.drewN_drewN _ _ _⟩ | exact ⟨rfl, _, Eq.trans (World.drewN_drewN _ _ _) (congrArg (World.drewN _) (Nat.add_assoc _ _ _))⟩)) | (go_at_call 32; (first | (with_reducible refine (at_calls _ _ _ _ _ t154 x7_1 (wrap64 (x8_1 + 1)) t163 _ BT.out ?side1 A16.out).mono ?_) | (with_reducible refine (at_calls _ _ _ _ _ t154 x7_1 (wrap64 (x8_1 + 1)) t163 _ (blk_drewN BT.out _) ?side1 A16.out).mono ?_)); (case side1 => repeat (first | exact (Kd.S_reads' HO_5.out).2.2 | (with_reducible refine Kd.C_alloc ?_ _) | (with_reducible refine Kd.C_drewN ?_ _) | (with_reducible refine Kd.C_drew ?_))); rintro e w' ⟨rfl, ⟨nd, rfl⟩⟩; (try first | exact ⟨rfl, _, World.drewN_drewN _ _ _⟩ | exact ⟨rfl, _, Eq.trans (World.drewN_drewN _ _ _) (congrArg (World.drewN _) (Nat.add_assoc _ _ _))⟩))))
                        go_roundg kj4
                        case measure => have := HK1.out; have := HJ4.out; omega
                        case rel => exact ⟨(x6_1), (x7_1), (wrap64 (x8_1 + 1)), (by first | rfl | (simp; done) | (simp [*]; done)), (by first | rfl | (simp; done) | (simp [*]; done)), H', ⟨by have := HK1.out; have := HJ4.out; omega⟩, ⟨by (with_reducible repeat (first | apply Kd.S_alloc | apply Kd.S_drewN | apply Kd.S_drew)); exact HO_5.out⟩, ⟨by (with_reducible repeat (first | apply Kd.R_alloc | apply Kd.R_drewN | apply Kd.R_drew)); exact HO_6.out⟩, ⟨by repeat (first | (with_reducible first | exact HB.out | apply below_alloc | apply pw_below_drewN | apply below_drew1) | exact HB.out)⟩, ⟨by first | exact BT.out | exact blk_drewN BT.out _ | exact blk_below BT.out hbA.out⟩⟩
                  · rw [if_neg c11] at H
                    exact absurd H (by simp)
                · rw [if_neg c10] at H
                  exact absurd H (by simp)
              · rw [if_neg c9] at H
                exact absurd H (by simp)
            · rw [if_neg c8] at H
              exact absurd H (by simp)
          · replace c7 := Bool.eq_false_iff.mpr c7
            subst c7
            have H1 : (some x6_1) = some r := by rw [if_neg (show ¬ (false = true) by decide)] at H; exact H
            clear H
            have H := H1
            clear H1
            obtain rfl := Option.some.inj H
            go_wp2
            repeat (go_quiet (fail); try go_wp2)
            go_ret
            exact ⟨_, by first | rfl | (simp [errW_none, errW_some] <;> rfl) | (simp [*, errW_none, errW_some] <;> rfl), by (with_reducible repeat (first | apply Kd.R_alloc | apply Kd.R_drewN | apply Kd.R_drew)); exact HO_6.out, by repeat (first | (with_reducible first | exact HB.out | apply below_alloc | apply pw_below_drewN | apply below_drew1) | exact HB.out)⟩

end Go.Proofs.YtnemooemifbbhaaDoor.Fill
/- The greatest common row that is taken along the table: what the walked function tells, and its contract. Conditions: at most a million lines each. -/
namespace Go.Proofs.YtnemooemifbbhaaDoor.Fill
open Go Go.RowKit Go.Proofs.YtnemooemifbbhaaDoorW.PrintWords Go.Proofs.YtnemooemifbbhaaDoorW.PrintLast Go.Proofs.YtnemooemifbbhaaDoorW.PrintMore Go.Proofs.YtnemooemifbbhaaDoor.PDL Go.Proofs.YtnemooemifbbhaaDoor.TabB Go.Proofs.YtnemooemifbbhaaDoor.TabD
set_option linter.unusedVariables false
set_option linter.unusedSimpArgs false
theorem wid {x : Int} (h0 : -9223372036854775808 ≤ x) (h1 : x ≤ 9223372036854775807) : wrap64 x = x := by
  unfold wrap64
  omega
theorem rd_part (a b : List ByteArray) (i k : Int) (j q : Nat) (hj : j ≤ a.length) (hq : q ≤ b.length) : rd (rd_L4 (tpart a b i k) (j : Int)) (q : Int) = if i < (j : Int) ∨ i = (j : Int) ∧ k < (q : Int) then (lcs (a.drop j) (b.drop q) : Int) else 0 := by
  have := part_at a b i k j q hj hq
  simpa [rd, rd_L4] using this
theorem len_part (a b : List ByteArray) (i k : Int) (j : Nat) (hj : j ≤ a.length) : (rd_L4 (tpart a b i k) (j : Int)).length = b.length + 1 := by
  have := part_row_len a b i k j hj
  simpa [rd_L4] using this
theorem rdOf_get (l : List ByteArray) (i : Nat) (h : i < l.length) : rdOf ByteArray.empty l (i : Int) = l[i] := by
  simp [rdOf, h]
theorem at_part (a b : List ByteArray) (i k : Int) (j q : Nat) (hj : j ≤ a.length) (hq : q ≤ b.length) : diff_table_at.f (tpart a b i k) (j : Int) (q : Int) = some (if i < (j : Int) ∨ i = (j : Int) ∧ k < (q : Int) then (lcs (a.drop j) (b.drop q) : Int) else 0) := by
  unfold diff_table_at.f
  rw [if_pos (by omega), if_pos (by rw [part_len]; omega), if_pos (by omega), if_pos (by rw [len_part a b i k j hj]; omega), rd_part a b i k j q hj hq]
theorem bytes_ne {x y : ByteArray} (c : x ≠ y) : ¬ x.toList = y.toList := fun e => c (by
  rw [ByteArray.toList_eq, ByteArray.toList_eq] at e
  exact ByteArray.ext (Array.toList_inj.mp e))
theorem F_l2 (a b : List ByteArray) (ha : a.length ≤ 1000000) (hb : b.length ≤ 1000000) (i : Nat) (hi : i < a.length) (R : List (List Int))
    (hR : Ev (fun k => diff_fill.l1 k a b (tpart a b ((i : Int) - 1) ((b.length : Int) - 1)) ((i : Int) - 1)) R) :
    ∀ q : Nat, q ≤ b.length → Ev (fun k => diff_fill.l2 k a b (tpart a b (i : Int) ((q : Int) - 1)) (i : Int) ((q : Int) - 1)) R := by
  intro q
  induction q with
  | zero =>
    intro _
    refine Ev.step (fun k => ?_) hR
    simp only [diff_fill.l2]
    rw [if_neg (by omega), wid (by omega) (by omega), show ((0 : Nat) : Int) - 1 = -1 from rfl, part_next]
  | succ q ih =>
    intro hq
    refine Ev.step (fun k => ?_) (ih (by omega))
    rw [show ((q + 1 : Nat) : Int) - 1 = (q : Int) by omega]
    have hs := part_set a b i q hi (by omega)
    have hst := lcs_step a b i q hi (by omega)
    have hle := lcs_le _ (a.drop (i + 1)) (b.drop (q + 1)) (Nat.le_refl _)
    rw [List.length_drop] at hle
    have e1 : wrap64 ((i : Int) + 1) = ((i + 1 : Nat) : Int) := by rw [wid (by omega) (by omega)]; omega
    have e2 : wrap64 ((q : Int) + 1) = ((q + 1 : Nat) : Int) := by rw [wid (by omega) (by omega)]; omega
    have e3 : wrap64 ((q : Int) - 1) = (q : Int) - 1 := wid (by omega) (by omega)
    simp only [diff_fill.l2, e1, e2, e3]
    have A1 := at_part a b i q (i + 1) q (by omega) (by omega)
    have A2 := at_part a b i q i (q + 1) (by omega) (by omega)
    have A3 := at_part a b i q (i + 1) (q + 1) (by omega) (by omega)
    rw [if_pos (.inl (by omega))] at A1 A3
    rw [if_pos (.inr ⟨rfl, by omega⟩)] at A2
    rw [if_pos (by omega), A1, A2, A3]
    simp only [Option.bind_some]
    rw [if_pos (show 0 ≤ (i : Int) by omega), if_pos (show (i : Int) < (a.length : Int) by omega), if_pos (show 0 ≤ (q : Int) by omega), if_pos (show (q : Int) < (b.length : Int) by omega)]
    rw [rdOf_get a i hi, rdOf_get b q (by omega)]
    simp only [len_part a b _ _ i (by omega), part_len]
    rw [if_pos (show (i : Int) < ((a.length + 1 : Nat) : Int) by omega), if_pos (show (q : Int) < ((b.length + 1 : Nat) : Int) by omega), if_pos (show (i : Int) < ((a.length + 1 : Nat) : Int) by omega), if_pos (show (q : Int) < ((b.length + 1 : Nat) : Int) by omega)]
    by_cases c : a[i] = b[q]
    · rw [if_pos (by rw [c])]
      rw [if_pos c] at hst
      rw [wid (by omega) (by omega), ← hs, hst]
      simp only [rd_L4, Int.toNat_natCast]
      rfl
    · rw [if_neg (bytes_ne c)]
      rw [if_neg c] at hst
      rw [← hs, hst]
      have em : mx (lcs (a.drop (i + 1)) (b.drop q) : Int) (lcs (a.drop i) (b.drop (q + 1)) : Int) = ((max (lcs (a.drop (i + 1)) (b.drop q)) (lcs (a.drop i) (b.drop (q + 1))) : Nat) : Int) := by
        unfold mx
        split <;> omega
      rw [em]
      simp only [rd_L4, Int.toNat_natCast]
theorem F_l1 (a b : List ByteArray) (ha : a.length ≤ 1000000) (hb : b.length ≤ 1000000) : ∀ i : Nat, i ≤ a.length → Ev (fun k => diff_fill.l1 k a b (tpart a b ((i : Int) - 1) ((b.length : Int) - 1)) ((i : Int) - 1)) (tpart a b (-1) ((b.length : Int) - 1)) := by
  intro i
  induction i with
  | zero =>
    intro _
    refine Ev.step (fun k => ?_) (Ev.now _)
    simp only [diff_fill.l1]
    rw [if_neg (by omega)]
    rfl
  | succ i ih =>
    intro hi
    refine Ev.step (fun k => ?_) (F_l2 a b ha hb i (by omega) _ (ih (by omega)) b.length (Nat.le_refl _))
    simp only [diff_fill.l1]
    rw [if_pos (by omega), wid (by omega) (by omega), show ((i + 1 : Nat) : Int) - 1 = (i : Int) by omega]
theorem F_l0 (a b : List ByteArray) (ha : a.length ≤ 1000000) (hb : b.length ≤ 1000000) : ∀ d i : Nat, i + d = a.length + 1 → Ev (fun k => diff_fill.l0 k a b (List.replicate i (List.replicate (b.length + 1) 0) ++ List.replicate d []) ((a.length + 1 : Nat) : Int) (i : Int)) (tpart a b (-1) ((b.length : Int) - 1)) := by
  intro d
  induction d with
  | zero =>
    intro i h
    refine Ev.step (fun k => ?_) (F_l1 a b ha hb a.length (Nat.le_refl _))
    simp only [diff_fill.l0]
    rw [if_neg (by omega), wid (by omega) (by omega), part_first, List.replicate_zero, List.append_nil, show i = a.length + 1 by omega]
  | succ d ih =>
    intro i h
    refine Ev.step (fun k => ?_) (ih (i + 1) (by omega))
    have e1 : wrap64 ((b.length : Int) + 1) = ((b.length + 1 : Nat) : Int) := by rw [wid (by omega) (by omega)]; omega
    have e2 : wrap64 ((i : Int) + 1) = ((i + 1 : Nat) : Int) := by rw [wid (by omega) (by omega)]; omega
    simp only [diff_fill.l0, e1, e2, Int.toNat_natCast]
    rw [if_pos (by omega), if_pos (by omega), if_pos (by omega), if_pos (by omega), if_pos (by simp only [List.length_append, List.length_replicate]; omega)]
    congr 1
    rw [List.replicate_succ (n := d), List.set_append_right _ _ (by simp), List.length_replicate, Nat.sub_self, List.set_cons_zero, List.replicate_succ' (n := i), List.append_assoc]
    rfl
theorem fill_ev (a b : List ByteArray) (ha : a.length ≤ 1000000) (hb : b.length ≤ 1000000) : Ev (fun k => diff_fill.f k a b) (tpart a b (-1) ((b.length : Int) - 1)) := by
  refine Ev.congr (fun k => ?_) (F_l0 a b ha hb (a.length + 1) 0 (by omega))
  have e1 : wrap64 ((a.length : Int) + 1) = ((a.length + 1 : Nat) : Int) := by rw [wid (by omega) (by omega)]; omega
  simp only [diff_fill.f, e1, Int.toNat_natCast, Option.bind_some, List.length_replicate]
  rw [if_pos (by omega), if_pos (by omega)]
  rfl
/-- A pair of the program's. -/
def pr (p : Nat × Nat) : S36 := ⟨(p.1 : Int), (p.2 : Int)⟩
/-- The pairs of the greatest common row. -/
def pairs (a b : List ByteArray) : List S36 := (greedy a b (a.length + b.length) 0 0).map pr
theorem C_l0 (a b : List ByteArray) (ha : a.length ≤ 1000000) (hb : b.length ≤ 1000000) : ∀ (n i k : Nat) (acc : List S36), i ≤ a.length → k ≤ b.length → (a.length - i) + (b.length - k) ≤ n → acc.length ≤ i →
    Ev (fun q => diff_Common.l0 q a b (tpart a b (-1) ((b.length : Int) - 1)) acc (i : Int) (k : Int)) (acc ++ (greedy a b n i k).map pr) := by
  intro n
  induction n with
  | zero =>
    intro i k acc hi hk h hacc
    refine Ev.step (f := fun q => diff_Common.j1 q a b (tpart a b (-1) ((b.length : Int) - 1)) acc (i : Int) (k : Int) false) (fun q => ?_) (Ev.step (fun q => ?_) (Ev.now _))
    · simp only [diff_Common.l0]
      rw [if_neg (by omega)]
    · simp only [diff_Common.j1, greedy, List.map_nil, List.append_nil]
      rw [if_neg (by decide)]
  | succ n ih =>
    intro i k acc hi hk h hacc
    rw [greedy]
    by_cases c : i < a.length ∧ k < b.length
    · have e1 : wrap64 ((i : Int) + 1) = ((i + 1 : Nat) : Int) := by rw [wid (by omega) (by omega)]; omega
      have e2 : wrap64 ((k : Int) + 1) = ((k + 1 : Nat) : Int) := by rw [wid (by omega) (by omega)]; omega
      have hj : ∀ q, diff_Common.l0 (q + 1) a b (tpart a b (-1) ((b.length : Int) - 1)) acc (i : Int) (k : Int) = diff_Common.j1 q a b (tpart a b (-1) ((b.length : Int) - 1)) acc (i : Int) (k : Int) true := by
        intro q
        simp only [diff_Common.l0]
        rw [if_pos (by omega), decide_eq_true (show (k : Int) < (b.length : Int) by omega)]
      have A1 := at_part a b (-1) ((b.length : Int) - 1) (i + 1) k (by omega) (by omega)
      have A2 := at_part a b (-1) ((b.length : Int) - 1) i (k + 1) (by omega) (by omega)
      rw [if_pos (Or.inl (by omega))] at A1 A2
      refine Ev.step hj ?_
      rw [dif_pos c]
      by_cases g : a[i]'c.1 = b[k]'c.2
      · rw [if_pos g]
        have := ih (i + 1) (k + 1) (acc ++ [pr (i, k)]) (by omega) (by omega) (by omega) (by simp; omega)
        rw [List.append_assoc] at this
        refine Ev.step (fun q => ?_) this
        simp only [diff_Common.j1, e1, e2]
        rw [if_pos trivial, if_pos (by omega), if_pos (by omega), if_pos (by omega), if_pos (by omega), rdOf_get a i c.1, rdOf_get b k c.2, if_pos (by rw [g]), if_pos (by omega)]
        rfl
      · rw [if_neg g]
        by_cases f : lcs (a.drop i) (b.drop (k + 1)) ≤ lcs (a.drop (i + 1)) (b.drop k)
        · rw [if_pos f]
          refine Ev.step (fun q => ?_) (ih (i + 1) k acc (by omega) (by omega) (by omega) (by omega))
          simp only [diff_Common.j1, e1, e2]
          rw [if_pos trivial, if_pos (by omega), if_pos (by omega), if_pos (by omega), if_pos (by omega), rdOf_get a i c.1, rdOf_get b k c.2, if_neg (bytes_ne g), A1, A2]
          simp only [Option.bind_some]
          rw [if_pos (by omega)]
        · rw [if_neg f]
          refine Ev.step (fun q => ?_) (ih i (k + 1) acc (by omega) (by omega) (by omega) (by omega))
          simp only [diff_Common.j1, e1, e2]
          rw [if_pos trivial, if_pos (by omega), if_pos (by omega), if_pos (by omega), if_pos (by omega), rdOf_get a i c.1, rdOf_get b k c.2, if_neg (bytes_ne g), A1, A2]
          simp only [Option.bind_some]
          rw [if_neg (by omega)]
    · rw [dif_neg c]
      refine Ev.step (f := fun q => diff_Common.j1 q a b (tpart a b (-1) ((b.length : Int) - 1)) acc (i : Int) (k : Int) false) (fun q => ?_) (Ev.step (fun q => ?_) (Ev.now _))
      · simp only [diff_Common.l0]
        by_cases hi' : i < a.length
        · rw [if_pos (by omega), decide_eq_false (by omega)]
        · rw [if_neg (by omega)]
      · simp only [diff_Common.j1, List.map_nil, List.append_nil]
        rw [if_neg (by decide)]
theorem common_ev (a b : List ByteArray) (ha : a.length ≤ 1000000) (hb : b.length ≤ 1000000) : Ev (fun k => diff_Common.f k a b) (pairs a b) := by
  refine Ev.bind (g := fun k => diff_fill.f k a b) (f := fun k t => diff_Common.l0 k a b t ([] : List S36) 0 0) (fill_ev a b ha hb) ?_
  exact C_l0 a b ha hb (a.length + b.length) 0 0 [] (by omega) (by omega) (by omega) (by simp)
/-- The contract of diff.Common. -/
theorem common (A0 : Option Addr) (c0 : Nat) (l0 : List ByteArray) (A1 : Option Addr) (c1 : Nat) (l1 : List ByteArray) (w : World) (hr0 : Kd.C Kd.string w A0 l0.length l0) (hc0 : l0.length ≤ c0) (hr1 : Kd.C Kd.string w A1 l1.length l1) (hc1 : l1.length ≤ c1) (ha : l0.length ≤ 1000000) (hb : l1.length ≤ 1000000) :
    Calls Tryd.prog 14 #[.slice A0 l0.length c0, .slice A1 l1.length c1] w fun e w' => ∃ v0_ : Value, e = .returned (v0_) ∧ Kd.R k36 36 w' w.heap.size (fun _ => True) v0_ (pairs l0 l1) ∧ Below w.heap.size w w' := by
  obtain ⟨k, h⟩ := (common_ev l0 l1 ha hb).rounds
  exact diff_Common.calls k A0 c0 l0 A1 c1 l1 _ w hr0 hc0 hr1 hc1 h
end Go.Proofs.YtnemooemifbbhaaDoor.Fill
