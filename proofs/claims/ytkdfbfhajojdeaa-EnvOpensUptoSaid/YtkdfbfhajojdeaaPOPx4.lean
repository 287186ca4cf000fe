-- Written by ownprint.py, a program of this session (out of the kit's print, with contracts of the session's own).
import Derived.Test.YtkdfbfhajojdeaaPOPx0
import Derived.Test.YtkdfbfhajojdeaaPOPx3
namespace Go.Proofs.Ytkdfbfhajojdeaa.POP
open Go.RowKit Go.Proofs.YtkdfbfhajojdeaaW.PrintWords Go.Proofs.YtkdfbfhajojdeaaW.PrintLast Go.Proofs.YtkdfbfhajojdeaaW.PrintMore
attribute [local go_sem] max2_int min2_int max_two min_two max_three min_three max_four min_four   -- for this text's walks alone
set_option linter.unusedVariables false
set_option linter.unusedSimpArgs false

/-! ### orielref11_Visible: function 23 -/
def orielref11_Visible.l0 : Nat → List (S26) → List (S26) → Int → Option ((List (S26)))
  | 0, _, _, _ => none
  | k + 1, x0, x3, x4 => if x4 < (x0.length : Int) then (if 0 ≤ x4 then ((orielref11_Find.f k x0 ((rd_T26 x0 x4).f0) ((rd_T26 x0 x4).f1)).bind fun t109 => (if t109 = x4 then (if x3.length < 1599289640401 then (orielref11_Visible.l0 k x0 (x3 ++ [(⟨(rd_T26 x0 x4).f0, (rd_T26 x0 x4).f1, (rd_T26 x0 x4).f2, (rd_T26 x0 x4).f3, (rd_T26 x0 x4).f4, (rd_T26 x0 x4).f5⟩ : S26)]) (wrap64 (x4 + 1))) else (none)) else (orielref11_Visible.l0 k x0 x3 (wrap64 (x4 + 1))))) else (none)) else (some x3)
def orielref11_Visible.f (k : Nat) (l0 : List (S26)) : Option ((List (S26))) := orielref11_Visible.l0 k l0 ([] : List (S26)) 0
theorem orielref11_Visible.mono_l : ∀ k, (∀ y0 y1 y2, LeO (orielref11_Visible.l0 k y0 y1 y2) (orielref11_Visible.l0 (k + 1) y0 y1 y2))
  | 0 => fun _ _ _ r h => by simp [orielref11_Visible.l0] at h
  | k + 1 => by
    have ih0 := orielref11_Visible.mono_l k
    · intro y0 y1 y2
      unfold orielref11_Visible.l0
      repeat' first
      | (with_reducible exact ih0 _ _ _)
      | (with_reducible exact orielref11_Find.mono _ _ _ _)
      | (with_reducible exact LeO.refl _)
      | (with_reducible exact LeO.none _)
      | (with_reducible refine LeO.ite ?_ ?_)
      | (with_reducible refine LeO.bind ?_ (fun _ => ?_))
      | exact ih0 _ _ _
      | exact orielref11_Find.mono _ _ _ _
      | exact LeO.none _
      | refine LeO.ite ?_ ?_
      | refine LeO.bind ?_ (fun _ => ?_)
theorem orielref11_Visible.mono : ∀ a0 k, LeO (orielref11_Visible.f k a0) (orielref11_Visible.f (k + 1) a0) := by
  intro a0 k
  have ih0 := orielref11_Visible.mono_l k
  unfold orielref11_Visible.f
  repeat' first
      | (with_reducible exact ih0 _ _ _)
      | (with_reducible exact orielref11_Find.mono _ _ _ _)
      | (with_reducible exact LeO.refl _)
      | (with_reducible exact LeO.none _)
      | (with_reducible refine LeO.ite ?_ ?_)
      | (with_reducible refine LeO.bind ?_ (fun _ => ?_))
      | exact ih0 _ _ _
      | exact orielref11_Find.mono _ _ _ _
      | exact LeO.none _
      | refine LeO.ite ?_ ?_
      | refine LeO.bind ?_ (fun _ => ?_)
set_option maxHeartbeats 8000000 in
set_option maxRecDepth 100000 in
theorem orielref11_Visible.calls (k : Nat) (P0_ : Nat → Prop) (A0 : Option Addr) (c0 : Nat) (l0 : List (S26)) (r : List (S26)) (w : World) (hs0 : Kd.V k26 26 w w.heap.size (fun k_ => P0_ k_) (.slice A0 l0.length c0) l0) (h : orielref11_Visible.f k l0 = some r) :
    Calls Try.prog 23 #[.slice A0 l0.length c0] w fun e w' => ∃ v0_ : Value, e = .returned (v0_) ∧ Kd.N k26 26 w' w.heap.size (fun k_ => (P0_ k_ ∨ w.heap.size ≤ k_)) v0_ r ∧ Below w.heap.size w w' := by
  have hu26 := Try.underlying26
  have HO0 := Aside0.mk (show Kd.V k26 26 w w.heap.size (fun k_ => (P0_ k_ ∨ w.heap.size ≤ k_)) (.slice A0 l0.length c0) l0 from Kd.V_mono hs0 (fun k_ hk => .inl hk))
  have HB := Aside0.mk (Below.refl w.heap.size w)
  have H : (orielref11_Visible.l0 k l0 ([] : List (S26)) 0) = some r := h
  clear h
  have H' := Aside0.mk H
  clear H
  go_enter Try.func23, Try.ntmps23
  go_wp2
  repeat (go_quiet (fail); try go_wp2)
  go_loopg [3, 4] k (fun kq v3 v4 w' => ∃ (x3_1 : List (S26)) (x4_1 : Int), v4 = .int .i64 x4_1 ∧ Aside0 (orielref11_Visible.l0 kq l0 x3_1 x4_1 = some r) ∧ Aside0 (kq ≤ k) ∧ Aside0 (Kd.V k26 26 w' w.heap.size (fun k_ => (P0_ k_ ∨ w.heap.size ≤ k_) ∧ some k_ ≠ (v3 : Value).ownBlock) (.slice A0 l0.length c0) l0) ∧ Aside0 (Kd.N k26 26 w' w.heap.size (fun k_ => (P0_ k_ ∨ w.heap.size ≤ k_)) v3 x3_1) ∧ Aside0 (Below w.heap.size w w'))
  case atStart => exact ⟨(([] : List (S26))), (0), (by first | rfl | (simp; done) | (simp [*]; done)), H', ⟨Nat.le_refl _⟩, ⟨by (with_reducible repeat (first | apply Kd.V_alloc | apply Kd.V_drewN | apply Kd.V_drew)); exact Kd.V_mono HO0.out (fun _ hk => ⟨hk, (by simp [Value.ownBlock])⟩)⟩, ⟨by first | exact Kd.R_nil _ _ _ _ _ | exact Kd.N_nil _ _ _ _ _ | exact Kd.V_nil _ _ _ _ _ | exact Kd.Q_nil _ _ _ _ _ | exact Kd.S_nil _ _ _ _ _⟩, ⟨by repeat (first | (with_reducible first | exact HB.out | apply below_alloc | apply pw_below_drewN | apply below_drew1) | exact HB.out)⟩⟩
  case round =>
    clear H'
    obtain ⟨x3_1, x4_1, rfl, HA, HK1, HO_0, HO_3, HB⟩ := hrel
    cases gk with
    | zero => exact absurd HA.out (by simp [orielref11_Visible.l0])
    | succ k1 =>
      have H := HA.out
      clear HA
      simp only [orielref11_Visible.l0] at H
      by_cases c2 : x4_1 < (l0.length : Int)
      · rw [if_pos c2] at H
        have c2b0 : decide (x4_1 < (l0.length : Int)) = true := decide_eq_true c2
        clear c2
        by_cases c3 : 0 ≤ x4_1
        · rw [if_pos c3] at H
          have c3b0 : decide (0 ≤ x4_1) = true := decide_eq_true c3
          clear c3
          replace H := Option.bind_eq_some_iff.mp H
          obtain ⟨t109, A40, H⟩ := H
          replace H : (if t109 = x4_1 then (if x3_1.length < 1599289640401 then (orielref11_Visible.l0 k1 l0 (x3_1 ++ [(⟨(rd_T26 l0 x4_1).f0, (rd_T26 l0 x4_1).f1, (rd_T26 l0 x4_1).f2, (rd_T26 l0 x4_1).f3, (rd_T26 l0 x4_1).f4, (rd_T26 l0 x4_1).f5⟩ : S26)]) (wrap64 (x4_1 + 1))) else (none)) else (orielref11_Visible.l0 k1 l0 x3_1 (wrap64 (x4_1 + 1)))) = some r := H
          have A4 := Aside0.mk A40
          clear A40
          by_cases c5 : t109 = x4_1
          · rw [if_pos c5] at H
            have c5b0 : (t109 == x4_1) = true := beq_iff_eq.mpr c5
            have c5b1 : (t109 != x4_1) = false := bne_eq_false_iff_eq.mpr c5
            clear c5
            by_cases c6 : x3_1.length < 1599289640401
            · rw [if_pos c6] at H
              have LMc6 := Aside0.mk c6
              clear c6
              obtain ⟨y111, hy111⟩ : ∃ y_ : List (S26), y_ = (x3_1 ++ [(⟨(rd_T26 l0 x4_1).f0, (rd_T26 l0 x4_1).f1, (rd_T26 l0 x4_1).f2, (rd_T26 l0 x4_1).f3, (rd_T26 l0 x4_1).f4, (rd_T26 l0 x4_1).f5⟩ : S26)]) := ⟨_, rfl⟩
              replace H : (orielref11_Visible.l0 k1 l0 y111 (wrap64 (x4_1 + 1))) = some r := by first | (rw [hy111]; with_reducible exact H) | (have H2_ := (Option.bind_some _ _).symm.trans H; rw [hy111]; with_reducible exact H2_) | (have H2_ := (Option.bind_some _ _).symm.trans H; with_reducible exact H2_) | with_reducible exact H | (rw [hy111]; exact H) | exact H
              have Ny111 := Aside0.mk hy111
              clear hy111
              have H' := Aside0.mk H
              clear H
              have p107 : 0 ≤ (x4_1 : Int) := of_decide_eq_true (by first | (with_reducible assumption) | assumption)
              have q107 : x4_1 < (l0.length : Int) := of_decide_eq_true (by first | (with_reducible assumption) | assumption)
              obtain ⟨ad107, A107_4, c107_4, A107_5, c107_5, e107, hx107_0, hx107_1, hx107_2, hx107_3, hx107_4, hx107_5, hl107_4, hi107_4, hl107_5, hi107_5⟩ := at_T26 (Kd.V_reads' HO_0.out).2.2 x4_1 p107 q107
              cases e107
              obtain ⟨ce107, hce107, hMe107, hcc107⟩ := Kd.V_get HO_0.out z26 x4_1 p107 (by first | exact q107 | exact of_decide_eq_true (by first | (with_reducible assumption) | assumption) | (have e_ := (Kd.V_reads' HO_0.out).1; omega))
              obtain ⟨ua107_4, uc107_4, ua107_5, uc107_5, rfl, ul107_4, ge107_4, ul107_5, ge107_5⟩ := k26_openF hMe107
              have hv107_4 := hcc107 4 _ rfl
              rw [add_field _ _ 4 (by omega)] at hv107_4
              replace hv107_4 := Option.some.inj (hv107_4.symm.trans hx107_4)
              injection hv107_4 with hva_ hvn_ hvc_
              rw [hva_] at ge107_4
              rw [hvc_] at ul107_4
              have HL107_4 := Aside0.mk (show Kd.V k26 26 _ w.heap.size _ _ ((rd_T26 l0 x4_1).f4) from Kd.V_mk ul107_4 ge107_4)
              clear hva_ hvn_ hvc_ ge107_4 ul107_4
              have hv107_5 := hcc107 5 _ rfl
              rw [add_field _ _ 5 (by omega)] at hv107_5
              replace hv107_5 := Option.some.inj (hv107_5.symm.trans hx107_5)
              injection hv107_5 with hva_ hvn_ hvc_
              rw [hva_] at ge107_5
              rw [hvc_] at ul107_5
              have HL107_5 := Aside0.mk (show Kd.V k26 26 _ w.heap.size _ _ ((rd_T26 l0 x4_1).f5) from Kd.V_mk ul107_5 ge107_5)
              clear hva_ hvn_ hvc_ ge107_5 ul107_5
              clear hcc107 hce107
              have HR107_4 := Aside0.mk hi107_4
              have HC107_4 := Aside0.mk hl107_4
              clear hi107_4 hl107_4
              have HR107_5 := Aside0.mk hi107_5
              have HC107_5 := Aside0.mk hl107_5
              clear hi107_5 hl107_5
              replace p107 := eq_true p107
              replace q107 := eq_true q107
              have p108 : 0 ≤ (x4_1 : Int) := of_decide_eq_true (by first | (with_reducible assumption) | assumption)
              have q108 : x4_1 < (l0.length : Int) := of_decide_eq_true (by first | (with_reducible assumption) | assumption)
              obtain ⟨ad108, A108_4, c108_4, A108_5, c108_5, e108, hx108_0, hx108_1, hx108_2, hx108_3, hx108_4, hx108_5, hl108_4, hi108_4, hl108_5, hi108_5⟩ := at_T26 (Kd.V_reads' HO_0.out).2.2 x4_1 p108 q108
              obtain rfl : ad107 = ad108 := (by injection e108)
              obtain ⟨ce108, hce108, hMe108, hcc108⟩ := Kd.V_get HO_0.out z26 x4_1 p108 (by first | exact q108 | exact of_decide_eq_true (by first | (with_reducible assumption) | assumption) | (have e_ := (Kd.V_reads' HO_0.out).1; omega))
              obtain ⟨ua108_4, uc108_4, ua108_5, uc108_5, rfl, ul108_4, ge108_4, ul108_5, ge108_5⟩ := k26_openF hMe108
              have hv108_4 := hcc108 4 _ rfl
              rw [add_field _ _ 4 (by omega)] at hv108_4
              replace hv108_4 := Option.some.inj (hv108_4.symm.trans hx108_4)
              injection hv108_4 with hva_ hvn_ hvc_
              rw [hva_] at ge108_4
              rw [hvc_] at ul108_4
              have HL108_4 := Aside0.mk (show Kd.V k26 26 _ w.heap.size _ _ ((rd_T26 l0 x4_1).f4) from Kd.V_mk ul108_4 ge108_4)
              clear hva_ hvn_ hvc_ ge108_4 ul108_4
              have hv108_5 := hcc108 5 _ rfl
              rw [add_field _ _ 5 (by omega)] at hv108_5
              replace hv108_5 := Option.some.inj (hv108_5.symm.trans hx108_5)
              injection hv108_5 with hva_ hvn_ hvc_
              rw [hva_] at ge108_5
              rw [hvc_] at ul108_5
              have HL108_5 := Aside0.mk (show Kd.V k26 26 _ w.heap.size _ _ ((rd_T26 l0 x4_1).f5) from Kd.V_mk ul108_5 ge108_5)
              clear hva_ hvn_ hvc_ ge108_5 ul108_5
              clear hcc108 hce108
              have HR108_4 := Aside0.mk hi108_4
              have HC108_4 := Aside0.mk hl108_4
              clear hi108_4 hl108_4
              have HR108_5 := Aside0.mk hi108_5
              have HC108_5 := Aside0.mk hl108_5
              clear hi108_5 hl108_5
              replace p108 := eq_true p108
              replace q108 := eq_true q108
              have ea_ := Option.some.inj (hx107_4.symm.trans hx108_4)
              injection ea_ with ea_ en_ ec_
              subst ea_
              subst ec_
              clear en_
              have ea_ := Option.some.inj (hx107_5.symm.trans hx108_5)
              injection ea_ with ea_ en_ ec_
              subst ea_
              subst ec_
              clear en_
              go_wp2_with (first | (go_at_call 28; (with_reducible refine (orielref11_Find.calls k1 _ _ l0 ((rd_T26 l0 x4_1).f0) ((rd_T26 l0 x4_1).f1) t109 _ ?side1 ?side2 A4.out).mono ?_); (case side1 => repeat (first | exact (Kd.V_reads' HO_0.out).2.2 | (with_reducible refine Kd.C_alloc ?_ _) | (with_reducible refine Kd.C_drewN ?_ _) | (with_reducible refine Kd.C_drew ?_))); (case side2 => exact (Kd.V_reads' HO_0.out).2.1); rintro e w' ⟨rfl, ⟨nd, rfl⟩⟩; (try first | exact ⟨rfl, _, World.drewN_drewN _ _ _⟩ | exact ⟨rfl, _, Eq.trans (World.drewN_drewN _ _ _) (congrArg (World.drewN _) (Nat.add_assoc _ _ _))⟩); have p110 : 0 ≤ (x4_1 : Int) := of_decide_eq_true (by first | (with_reducible assumption) | assumption); have q110 : x4_1 < (l0.length : Int) := of_decide_eq_true (by first | (with_reducible assumption) | assumption); obtain ⟨ad110, A110_4, c110_4, A110_5, c110_5, e110, hx110_0, hx110_1, hx110_2, hx110_3, hx110_4, hx110_5, hl110_4, hi110_4, hl110_5, hi110_5⟩ := at_T26 (Kd.V_reads' HO_0.out).2.2 x4_1 p110 q110; obtain rfl : ad107 = ad110 := (by injection e110); obtain ⟨ce110, hce110, hMe110, hcc110⟩ := Kd.V_get HO_0.out z26 x4_1 p110 (by first | exact q110 | exact of_decide_eq_true (by first | (with_reducible assumption) | assumption) | (have e_ := (Kd.V_reads' HO_0.out).1; omega)); obtain ⟨ua110_4, uc110_4, ua110_5, uc110_5, rfl, ul110_4, ge110_4, ul110_5, ge110_5⟩ := k26_openF hMe110; have hv110_4 := hcc110 4 _ rfl; rw [add_field _ _ 4 (by omega)] at hv110_4; replace hv110_4 := Option.some.inj (hv110_4.symm.trans hx110_4); injection hv110_4 with hva_ hvn_ hvc_; rw [hva_] at ge110_4; rw [hvc_] at ul110_4; have HL110_4 := Aside0.mk (show Kd.V k26 26 _ w.heap.size _ _ ((rd_T26 l0 x4_1).f4) from Kd.V_mk ul110_4 ge110_4); clear hva_ hvn_ hvc_ ge110_4 ul110_4; have hv110_5 := hcc110 5 _ rfl; rw [add_field _ _ 5 (by omega)] at hv110_5; replace hv110_5 := Option.some.inj (hv110_5.symm.trans hx110_5); injection hv110_5 with hva_ hvn_ hvc_; rw [hva_] at ge110_5; rw [hvc_] at ul110_5; have HL110_5 := Aside0.mk (show Kd.V k26 26 _ w.heap.size _ _ ((rd_T26 l0 x4_1).f5) from Kd.V_mk ul110_5 ge110_5); clear hva_ hvn_ hvc_ ge110_5 ul110_5; clear hcc110 hce110; have HR110_4 := Aside0.mk hi110_4; have HC110_4 := Aside0.mk hl110_4; clear hi110_4 hl110_4; have HR110_5 := Aside0.mk hi110_5; have HC110_5 := Aside0.mk hl110_5; clear hi110_5 hl110_5; replace p110 := eq_true p110; replace q110 := eq_true q110; have ea_ := Option.some.inj (hx107_4.symm.trans hx110_4); injection ea_ with ea_ en_ ec_; subst ea_; subst ec_; clear en_; have ea_ := Option.some.inj (hx107_5.symm.trans hx110_5); injection ea_ with ea_ en_ ec_; subst ea_; subst ec_; clear en_) | ((with_reducible refine gate_builtin (b := .append) (xs := #[.tmp 25, .tmp 30]) rfl ?_); at_builtin; refine Kd.N_append k26 (w0 := w) w.heap.size rfl (.tmp 25) (.tmp 30) 22 26 (.agg #[(.int .i64 0), (.string ⟨#[]⟩), (.int .i64 0), (.int .i64 0), (.slice none 0 0), (.slice none 0 0)]) 88 rfl Try.underlying22 info26 rfl (by decide) (by omega) u3 x3_1 (⟨(rd_T26 l0 x4_1).f0, (rd_T26 l0 x4_1).f1, (rd_T26 l0 x4_1).f2, (rd_T26 l0 x4_1).f3, (rd_T26 l0 x4_1).f4, (rd_T26 l0 x4_1).f5⟩ : S26) [.int .i64 ((rd_T26 l0 x4_1).f0), .string ((rd_T26 l0 x4_1).f1), .int .i64 ((rd_T26 l0 x4_1).f2), .int .i64 ((rd_T26 l0 x4_1).f3), .slice A107_4 ((rd_T26 l0 x4_1).f4).length c107_4, .slice A107_5 ((rd_T26 l0 x4_1).f5).length c107_5] (fun k_ => (P0_ k_ ∨ w.heap.size ≤ k_)) (fun k_ => ((fun k_ => (P0_ k_ ∨ w.heap.size ≤ k_))) k_ ∧ some k_ ≠ (u3 : Value).ownBlock) rfl rfl ?aP (fun _ hk => hk) ?aF ?aO ?aB ?aS ?aL ?_; (case aP => exact (k26_mkF _ _ (⟨(rd_T26 l0 x4_1).f0, (rd_T26 l0 x4_1).f1, (rd_T26 l0 x4_1).f2, (rd_T26 l0 x4_1).f3, (rd_T26 l0 x4_1).f4, (rd_T26 l0 x4_1).f5⟩ : S26) (Kd.V_reads' (Kd.V_mono (ok' := (fun k_ => ((fun k_ => (P0_ k_ ∨ w.heap.size ≤ k_))) k_ ∧ some k_ ≠ (u3 : Value).ownBlock)) (HL110_4.out) (fun k_ hk => ⟨hk.1, hk.2⟩))).2.1 (Kd.V_F (Kd.V_mono (ok' := (fun k_ => ((fun k_ => (P0_ k_ ∨ w.heap.size ≤ k_))) k_ ∧ some k_ ≠ (u3 : Value).ownBlock)) (HL110_4.out) (fun k_ hk => ⟨hk.1, hk.2⟩))) (Kd.V_reads' (Kd.V_mono (ok' := (fun k_ => ((fun k_ => (P0_ k_ ∨ w.heap.size ≤ k_))) k_ ∧ some k_ ≠ (u3 : Value).ownBlock)) (HL110_5.out) (fun k_ hk => ⟨hk.1, hk.2⟩))).2.1 (Kd.V_F (Kd.V_mono (ok' := (fun k_ => ((fun k_ => (P0_ k_ ∨ w.heap.size ≤ k_))) k_ ∧ some k_ ≠ (u3 : Value).ownBlock)) (HL110_5.out) (fun k_ hk => ⟨hk.1, hk.2⟩))))); (case aB => exact (by repeat (first | (with_reducible first | exact HB.out | apply below_alloc | apply pw_below_drewN | apply below_drew1) | exact HB.out))); (case aF => exact (fun k_ hk => (.inr (Nat.le_trans (below_size (by repeat (first | (with_reducible first | exact HB.out | apply below_alloc | apply pw_below_drewN | apply below_drew1) | exact HB.out))) hk)))); (case aO => exact (by (with_reducible repeat (first | apply Kd.N_alloc | apply Kd.N_drewN | apply Kd.N_drew)); exact HO_3.out)); (case aS => exact (below_size (by repeat (first | (with_reducible first | exact HB.out | apply below_alloc | apply pw_below_drewN | apply below_drew1) | exact HB.out)))); (case aL => have := LMc6.out; omega); intro v112 w7 ho hb hg hat; rw [← Ny111.out] at ho; have n0_ := Aside0.mk (Kd.V_afterv (ok := (fun k_ => (P0_ k_ ∨ w.heap.size ≤ k_))) (by (with_reducible repeat (first | apply Kd.V_alloc | apply Kd.V_drewN | apply Kd.V_drew)); exact HO_0.out) hg hat); have n1_ := Aside0.mk (Kd.V_afterv (ok := (fun k_ => (P0_ k_ ∨ w.heap.size ≤ k_))) (by (with_reducible repeat (first | apply Kd.V_alloc | apply Kd.V_drewN | apply Kd.V_drew)); exact HL107_4.out) hg hat); have n2_ := Aside0.mk (Kd.V_afterv (ok := (fun k_ => (P0_ k_ ∨ w.heap.size ≤ k_))) (by (with_reducible repeat (first | apply Kd.V_alloc | apply Kd.V_drewN | apply Kd.V_drew)); exact HL107_5.out) hg hat); have n3_ := Aside0.mk (Kd.V_afterv (ok := (fun k_ => (P0_ k_ ∨ w.heap.size ≤ k_))) (by (with_reducible repeat (first | apply Kd.V_alloc | apply Kd.V_drewN | apply Kd.V_drew)); exact HL108_4.out) hg hat); have n4_ := Aside0.mk (Kd.V_afterv (ok := (fun k_ => (P0_ k_ ∨ w.heap.size ≤ k_))) (by (with_reducible repeat (first | apply Kd.V_alloc | apply Kd.V_drewN | apply Kd.V_drew)); exact HL108_5.out) hg hat); have n5_ := Aside0.mk (Kd.V_afterv (ok := (fun k_ => (P0_ k_ ∨ w.heap.size ≤ k_))) (by (with_reducible repeat (first | apply Kd.V_alloc | apply Kd.V_drewN | apply Kd.V_drew)); exact HL110_4.out) hg hat); have n6_ := Aside0.mk (Kd.V_afterv (ok := (fun k_ => (P0_ k_ ∨ w.heap.size ≤ k_))) (by (with_reducible repeat (first | apply Kd.V_alloc | apply Kd.V_drewN | apply Kd.V_drew)); exact HL110_5.out) hg hat); have n7_ := Aside0.mk (hb); have n8_ := Aside0.mk (ho); clear HO_0; clear HL107_4; clear HL107_5; clear HL108_4; clear HL108_5; clear HL110_4; clear HL110_5; clear HB; clear HO_3; have HO_0 := n0_; have HL107_4 := n1_; have HL107_5 := n2_; have HL108_4 := n3_; have HL108_5 := n4_; have HL110_4 := n5_; have HL110_5 := n6_; have HB := n7_; have HO113 := n8_; clear n0_ n1_ n2_ n3_ n4_ n5_ n6_ n7_ n8_; clear ho hb hg hat))
              repeat (go_quiet (first | (go_at_call 28; (with_reducible refine (orielref11_Find.calls k1 _ _ l0 ((rd_T26 l0 x4_1).f0) ((rd_T26 l0 x4_1).f1) t109 _ ?side1 ?side2 A4.out).mono ?_); (case side1 => repeat (first | exact (Kd.V_reads' HO_0.out).2.2 | (with_reducible refine Kd.C_alloc ?_ _) | (with_reducible refine Kd.C_drewN ?_ _) | (with_reducible refine Kd.C_drew ?_))); (case side2 => exact (Kd.V_reads' HO_0.out).2.1); rintro e w' ⟨rfl, ⟨nd, rfl⟩⟩; (try first | exact ⟨rfl, _, World.drewN_drewN _ _ _⟩ | exact ⟨rfl, _, Eq.trans (World.drewN_drewN _ _ _) (congrArg (World.drewN _) (Nat.add_assoc _ _ _))⟩); have p110 : 0 ≤ (x4_1 : Int) := of_decide_eq_true (by first | (with_reducible assumption) | assumption); have q110 : x4_1 < (l0.length : Int) := of_decide_eq_true (by first | (with_reducible assumption) | assumption); obtain ⟨ad110, A110_4, c110_4, A110_5, c110_5, e110, hx110_0, hx110_1, hx110_2, hx110_3, hx110_4, hx110_5, hl110_4, hi110_4, hl110_5, hi110_5⟩ := at_T26 (Kd.V_reads' HO_0.out).2.2 x4_1 p110 q110; obtain rfl : ad107 = ad110 := (by injection e110); obtain ⟨ce110, hce110, hMe110, hcc110⟩ := Kd.V_get HO_0.out z26 x4_1 p110 (by first | exact q110 | exact of_decide_eq_true (by first | (with_reducible assumption) | assumption) | (have e_ := (Kd.V_reads' HO_0.out).1; omega)); obtain ⟨ua110_4, uc110_4, ua110_5, uc110_5, rfl, ul110_4, ge110_4, ul110_5, ge110_5⟩ := k26_openF hMe110; have hv110_4 := hcc110 4 _ rfl; rw [add_field _ _ 4 (by omega)] at hv110_4; replace hv110_4 := Option.some.inj (hv110_4.symm.trans hx110_4); injection hv110_4 with hva_ hvn_ hvc_; rw [hva_] at ge110_4; rw [hvc_] at ul110_4; have HL110_4 := Aside0.mk (show Kd.V k26 26 _ w.heap.size _ _ ((rd_T26 l0 x4_1).f4) from Kd.V_mk ul110_4 ge110_4); clear hva_ hvn_ hvc_ ge110_4 ul110_4; have hv110_5 := hcc110 5 _ rfl; rw [add_field _ _ 5 (by omega)] at hv110_5; replace hv110_5 := Option.some.inj (hv110_5.symm.trans hx110_5); injection hv110_5 with hva_ hvn_ hvc_; rw [hva_] at ge110_5; rw [hvc_] at ul110_5; have HL110_5 := Aside0.mk (show Kd.V k26 26 _ w.heap.size _ _ ((rd_T26 l0 x4_1).f5) from Kd.V_mk ul110_5 ge110_5); clear hva_ hvn_ hvc_ ge110_5 ul110_5; clear hcc110 hce110; have HR110_4 := Aside0.mk hi110_4; have HC110_4 := Aside0.mk hl110_4; clear hi110_4 hl110_4; have HR110_5 := Aside0.mk hi110_5; have HC110_5 := Aside0.mk hl110_5; clear hi110_5 hl110_5; replace p110 := eq_true p110; replace q110 := eq_true q110; have ea_ := Option.some.inj (hx107_4.symm.trans hx110_4); injection ea_ with ea_ en_ ec_; subst ea_; subst ec_; clear en_; have ea_ := Option.some.inj (hx107_5.symm.trans hx110_5); injection ea_ with ea_ en_ ec_; subst ea_; subst ec_; clear en_) | ((with_reducible refine gate_builtin (b := .append) (xs := #[.tmp 25, .tmp 30]) rfl ?_); at_builtin; refine Kd.N_append k26 (w0 := w) w.heap.size rfl (.tmp 25) (.tmp 30) 22 26 (.agg #[(.int .i64 0), (.string ⟨#[]⟩), (.int .i64 0), (.int .i64 0), (.slice none 0 0), (.slice none 0 0)]) 88 rfl Try.underlying22 info26 rfl (by decide) (by omega) u3 x3_1 (⟨(rd_T26 l0 x4_1).f0, (rd_T26 l0 x4_1).f1, (rd_T26 l0 x4_1).f2, (rd_T26 l0 x4_1).f3, (rd_T26 l0 x4_1).f4, (rd_T26 l0 x4_1).f5⟩ : S26) [.int .i64 ((rd_T26 l0 x4_1).f0), .string ((rd_T26 l0 x4_1).f1), .int .i64 ((rd_T26 l0 x4_1).f2), .int .i64 ((rd_T26 l0 x4_1).f3), .slice A107_4 ((rd_T26 l0 x4_1).f4).length c107_4, .slice A107_5 ((rd_T26 l0 x4_1).f5).length c107_5] (fun k_ => (P0_ k_ ∨ w.heap.size ≤ k_)) (fun k_ => ((fun k_ => (P0_ k_ ∨ w.heap.size ≤ k_))) k_ ∧ some k_ ≠ (u3 : Value).ownBlock) rfl rfl ?aP (fun _ hk => hk) ?aF ?aO ?aB ?aS ?aL ?_; (case aP => exact (k26_mkF _ _ (⟨(rd_T26 l0 x4_1).f0, (rd_T26 l0 x4_1).f1, (rd_T26 l0 x4_1).f2, (rd_T26 l0 x4_1).f3, (rd_T26 l0 x4_1).f4, (rd_T26 l0 x4_1).f5⟩ : S26) (Kd.V_reads' (Kd.V_mono (ok' := (fun k_ => ((fun k_ => (P0_ k_ ∨ w.heap.size ≤ k_))) k_ ∧ some k_ ≠ (u3 : Value).ownBlock)) (HL110_4.out) (fun k_ hk => ⟨hk.1, hk.2⟩))).2.1 (Kd.V_F (Kd.V_mono (ok' := (fun k_ => ((fun k_ => (P0_ k_ ∨ w.heap.size ≤ k_))) k_ ∧ some k_ ≠ (u3 : Value).ownBlock)) (HL110_4.out) (fun k_ hk => ⟨hk.1, hk.2⟩))) (Kd.V_reads' (Kd.V_mono (ok' := (fun k_ => ((fun k_ => (P0_ k_ ∨ w.heap.size ≤ k_))) k_ ∧ some k_ ≠ (u3 : Value).ownBlock)) (HL110_5.out) (fun k_ hk => ⟨hk.1, hk.2⟩))).2.1 (Kd.V_F (Kd.V_mono (ok' := (fun k_ => ((fun k_ => (P0_ k_ ∨ w.heap.size ≤ k_))) k_ ∧ some k_ ≠ (u3 : Value).ownBlock)) (HL110_5.out) (fun k_ hk => ⟨hk.1, hk.2⟩))))); (case aB => exact (by repeat (first | (with_reducible first | exact HB.out | apply below_alloc | apply pw_below_drewN | apply below_drew1) | exact HB.out))); (case aF => exact (fun k_ hk => (.inr (Nat.le_trans (below_size (by repeat (first | (with_reducible first | exact HB.out | apply below_alloc | apply pw_below_drewN | apply below_drew1) | exact HB.out))) hk)))); (case aO => exact (by (with_reducible repeat (first | apply Kd.N_alloc | apply Kd.N_drewN | apply Kd.N_drew)); exact HO_3.out)); (case aS => exact (below_size (by repeat (first | (with_reducible first | exact HB.out | apply below_alloc | apply pw_below_drewN | apply below_drew1) | exact HB.out)))); (case aL => have := LMc6.out; omega); intro v112 w7 ho hb hg hat; rw [← Ny111.out] at ho; have n0_ := Aside0.mk (Kd.V_afterv (ok := (fun k_ => (P0_ k_ ∨ w.heap.size ≤ k_))) (by (with_reducible repeat (first | apply Kd.V_alloc | apply Kd.V_drewN | apply Kd.V_drew)); exact HO_0.out) hg hat); have n1_ := Aside0.mk (Kd.V_afterv (ok := (fun k_ => (P0_ k_ ∨ w.heap.size ≤ k_))) (by (with_reducible repeat (first | apply Kd.V_alloc | apply Kd.V_drewN | apply Kd.V_drew)); exact HL107_4.out) hg hat); have n2_ := Aside0.mk (Kd.V_afterv (ok := (fun k_ => (P0_ k_ ∨ w.heap.size ≤ k_))) (by (with_reducible repeat (first | apply Kd.V_alloc | apply Kd.V_drewN | apply Kd.V_drew)); exact HL107_5.out) hg hat); have n3_ := Aside0.mk (Kd.V_afterv (ok := (fun k_ => (P0_ k_ ∨ w.heap.size ≤ k_))) (by (with_reducible repeat (first | apply Kd.V_alloc | apply Kd.V_drewN | apply Kd.V_drew)); exact HL108_4.out) hg hat); have n4_ := Aside0.mk (Kd.V_afterv (ok := (fun k_ => (P0_ k_ ∨ w.heap.size ≤ k_))) (by (with_reducible repeat (first | apply Kd.V_alloc | apply Kd.V_drewN | apply Kd.V_drew)); exact HL108_5.out) hg hat); have n5_ := Aside0.mk (Kd.V_afterv (ok := (fun k_ => (P0_ k_ ∨ w.heap.size ≤ k_))) (by (with_reducible repeat (first | apply Kd.V_alloc | apply Kd.V_drewN | apply Kd.V_drew)); exact HL110_4.out) hg hat); have n6_ := Aside0.mk (Kd.V_afterv (ok := (fun k_ => (P0_ k_ ∨ w.heap.size ≤ k_))) (by (with_reducible repeat (first | apply Kd.V_alloc | apply Kd.V_drewN | apply Kd.V_drew)); exact HL110_5.out) hg hat); have n7_ := Aside0.mk (hb); have n8_ := Aside0.mk (ho); clear HO_0; clear HL107_4; clear HL107_5; clear HL108_4; clear HL108_5; clear HL110_4; clear HL110_5; clear HB; clear HO_3; have HO_0 := n0_; have HL107_4 := n1_; have HL107_5 := n2_; have HL108_4 := n3_; have HL108_5 := n4_; have HL110_4 := n5_; have HL110_5 := n6_; have HB := n7_; have HO113 := n8_; clear n0_ n1_ n2_ n3_ n4_ n5_ n6_ n7_ n8_; clear ho hb hg hat)); try go_wp2_with (first | (go_at_call 28; (with_reducible refine (orielref11_Find.calls k1 _ _ l0 ((rd_T26 l0 x4_1).f0) ((rd_T26 l0 x4_1).f1) t109 _ ?side1 ?side2 A4.out).mono ?_); (case side1 => repeat (first | exact (Kd.V_reads' HO_0.out).2.2 | (with_reducible refine Kd.C_alloc ?_ _) | (with_reducible refine Kd.C_drewN ?_ _) | (with_reducible refine Kd.C_drew ?_))); (case side2 => exact (Kd.V_reads' HO_0.out).2.1); rintro e w' ⟨rfl, ⟨nd, rfl⟩⟩; (try first | exact ⟨rfl, _, World.drewN_drewN _ _ _⟩ | exact ⟨rfl, _, Eq.trans (World.drewN_drewN _ _ _) (congrArg (World.drewN _) (Nat.add_assoc _ _ _))⟩); have p110 : 0 ≤ (x4_1 : Int) := of_decide_eq_true (by first | (with_reducible assumption) | assumption); have q110 : x4_1 < (l0.length : Int) := of_decide_eq_true (by first | (with_reducible assumption) | assumption); obtain ⟨ad110, A110_4, c110_4, A110_5, c110_5, e110, hx110_0, hx110_1, hx110_2, hx110_3, hx110_4, hx110_5, hl110_4, hi110_4, hl110_5, hi110_5⟩ := at_T26 (Kd.V_reads' HO_0.out).2.2 x4_1 p110 q110; obtain rfl : ad107 = ad110 := (by injection e110); obtain ⟨ce110, hce110, hMe110, hcc110⟩ := Kd.V_get HO_0.out z26 x4_1 p110 (by first | exact q110 | exact of_decide_eq_true (by first | (with_reducible assumption) | assumption) | (have e_ := (Kd.V_reads' HO_0.out).1; omega)); obtain ⟨ua110_4, uc110_4, ua110_5, uc110_5, rfl, ul110_4, ge110_4, ul110_5, ge110_5⟩ := k26_openF hMe110; have hv110_4 := hcc110 4 _ rfl; rw [add_field _ _ 4 (by omega)] at hv110_4; replace hv110_4 := Option.some.inj (hv110_4.symm.trans hx110_4); injection hv110_4 with hva_ hvn_ hvc_; rw [hva_] at ge110_4; rw [hvc_] at ul110_4; have HL110_4 := Aside0.mk (show Kd.V k26 26 _ w.heap.size _ _ ((rd_T26 l0 x4_1).f4) from Kd.V_mk ul110_4 ge110_4); clear hva_ hvn_ hvc_ ge110_4 ul110_4; have hv110_5 := hcc110 5 _ rfl; rw [add_field _ _ 5 (by omega)] at hv110_5; replace hv110_5 := Option.some.inj (hv110_5.symm.trans hx110_5); injection hv110_5 with hva_ hvn_ hvc_; rw [hva_] at ge110_5; rw [hvc_] at ul110_5; have HL110_5 := Aside0.mk (show Kd.V k26 26 _ w.heap.size _ _ ((rd_T26 l0 x4_1).f5) from Kd.V_mk ul110_5 ge110_5); clear hva_ hvn_ hvc_ ge110_5 ul110_5; clear hcc110 hce110; have HR110_4 := Aside0.mk hi110_4; have HC110_4 := Aside0.mk hl110_4; clear hi110_4 hl110_4; have HR110_5 := Aside0.mk hi110_5; have HC110_5 := Aside0.mk hl110_5; clear hi110_5 hl110_5; replace p110 := eq_true p110; replace q110 := eq_true q110; have ea_ := Option.some.inj (hx107_4.symm.trans hx110_4); injection ea_ with ea_ en_ ec_; subst ea_; subst ec_; clear en_; have ea_ := Option.some.inj (hx107_5.symm.trans hx110_5); injection ea_ with ea_ en_ ec_; subst ea_; subst ec_; clear en_) | ((with_reducible refine gate_builtin (b := .append) (xs := #[.tmp 25, .tmp 30]) rfl ?_); at_builtin; refine Kd.N_append k26 (w0 := w) w.heap.size rfl (.tmp 25) (.tmp 30) 22 26 (.agg #[(.int .i64 0), (.string ⟨#[]⟩), (.int .i64 0), (.int .i64 0), (.slice none 0 0), (.slice none 0 0)]) 88 rfl Try.underlying22 info26 rfl (by decide) (by omega) u3 x3_1 (⟨(rd_T26 l0 x4_1).f0, (rd_T26 l0 x4_1).f1, (rd_T26 l0 x4_1).f2, (rd_T26 l0 x4_1).f3, (rd_T26 l0 x4_1).f4, (rd_T26 l0 x4_1).f5⟩ : S26) [.int .i64 ((rd_T26 l0 x4_1).f0), .string ((rd_T26 l0 x4_1).f1), .int .i64 ((rd_T26 l0 x4_1).f2), .int .i64 ((rd_T26 l0 x4_1).f3), .slice A107_4 ((rd_T26 l0 x4_1).f4).length c107_4, .slice A107_5 ((rd_T26 l0 x4_1).f5).length c107_5] (fun k_ => (P0_ k_ ∨ w.heap.size ≤ k_)) (fun k_ => ((fun k_ => (P0_ k_ ∨ w.heap.size ≤ k_))) k_ ∧ some k_ ≠ (u3 : Value).ownBlock) rfl rfl ?aP (fun _ hk => hk) ?aF ?aO ?aB ?aS ?aL ?_; (case aP => exact (k26_mkF _ _ (⟨(rd_T26 l0 x4_1).f0, (rd_T26 l0 x4_1).f1, (rd_T26 l0 x4_1).f2, (rd_T26 l0 x4_1).f3, (rd_T26 l0 x4_1).f4, (rd_T26 l0 x4_1).f5⟩ : S26) (Kd.V_reads' (Kd.V_mono (ok' := (fun k_ => ((fun k_ => (P0_ k_ ∨ w.heap.size ≤ k_))) k_ ∧ some k_ ≠ (u3 : Value).ownBlock)) (HL110_4.out) (fun k_ hk => ⟨hk.1, hk.2⟩))).2.1 (Kd.V_F (Kd.V_mono (ok' := (fun k_ => ((fun k_ => (P0_ k_ ∨ w.heap.size ≤ k_))) k_ ∧ some k_ ≠ (u3 : Value).ownBlock)) (HL110_4.out) (fun k_ hk => ⟨hk.1, hk.2⟩))) (Kd.V_reads' (Kd.V_mono (ok' := (fun k_ => ((fun k_ => (P0_ k_ ∨ w.heap.size ≤ k_))) k_ ∧ some k_ ≠ (u3 : Value).ownBlock)) (HL110_5.out) (fun k_ hk => ⟨hk.1, hk.2⟩))).2.1 (Kd.V_F (Kd.V_mono (ok' := (fun k_ => ((fun k_ => (P0_ k_ ∨ w.heap.size ≤ k_))) k_ ∧ some k_ ≠ (u3 : Value).ownBlock)) (HL110_5.out) (fun k_ hk => ⟨hk.1, hk.2⟩))))); (case aB => exact (by repeat (first | (with_reducible first | exact HB.out | apply below_alloc | apply pw_below_drewN | apply below_drew1) | exact HB.out))); (case aF => exact (fun k_ hk => (.inr (Nat.le_trans (below_size (by repeat (first | (with_reducible first | exact HB.out | apply below_alloc | apply pw_below_drewN | apply below_drew1) | exact HB.out))) hk)))); (case aO => exact (by (with_reducible repeat (first | apply Kd.N_alloc | apply Kd.N_drewN | apply Kd.N_drew)); exact HO_3.out)); (case aS => exact (below_size (by repeat (first | (with_reducible first | exact HB.out | apply below_alloc | apply pw_below_drewN | apply below_drew1) | exact HB.out)))); (case aL => have := LMc6.out; omega); intro v112 w7 ho hb hg hat; rw [← Ny111.out] at ho; have n0_ := Aside0.mk (Kd.V_afterv (ok := (fun k_ => (P0_ k_ ∨ w.heap.size ≤ k_))) (by (with_reducible repeat (first | apply Kd.V_alloc | apply Kd.V_drewN | apply Kd.V_drew)); exact HO_0.out) hg hat); have n1_ := Aside0.mk (Kd.V_afterv (ok := (fun k_ => (P0_ k_ ∨ w.heap.size ≤ k_))) (by (with_reducible repeat (first | apply Kd.V_alloc | apply Kd.V_drewN | apply Kd.V_drew)); exact HL107_4.out) hg hat); have n2_ := Aside0.mk (Kd.V_afterv (ok := (fun k_ => (P0_ k_ ∨ w.heap.size ≤ k_))) (by (with_reducible repeat (first | apply Kd.V_alloc | apply Kd.V_drewN | apply Kd.V_drew)); exact HL107_5.out) hg hat); have n3_ := Aside0.mk (Kd.V_afterv (ok := (fun k_ => (P0_ k_ ∨ w.heap.size ≤ k_))) (by (with_reducible repeat (first | apply Kd.V_alloc | apply Kd.V_drewN | apply Kd.V_drew)); exact HL108_4.out) hg hat); have n4_ := Aside0.mk (Kd.V_afterv (ok := (fun k_ => (P0_ k_ ∨ w.heap.size ≤ k_))) (by (with_reducible repeat (first | apply Kd.V_alloc | apply Kd.V_drewN | apply Kd.V_drew)); exact HL108_5.out) hg hat); have n5_ := Aside0.mk (Kd.V_afterv (ok := (fun k_ => (P0_ k_ ∨ w.heap.size ≤ k_))) (by (with_reducible repeat (first | apply Kd.V_alloc | apply Kd.V_drewN | apply Kd.V_drew)); exact HL110_4.out) hg hat); have n6_ := Aside0.mk (Kd.V_afterv (ok := (fun k_ => (P0_ k_ ∨ w.heap.size ≤ k_))) (by (with_reducible repeat (first | apply Kd.V_alloc | apply Kd.V_drewN | apply Kd.V_drew)); exact HL110_5.out) hg hat); have n7_ := Aside0.mk (hb); have n8_ := Aside0.mk (ho); clear HO_0; clear HL107_4; clear HL107_5; clear HL108_4; clear HL108_5; clear HL110_4; clear HL110_5; clear HB; clear HO_3; have HO_0 := n0_; have HL107_4 := n1_; have HL107_5 := n2_; have HL108_4 := n3_; have HL108_5 := n4_; have HL110_4 := n5_; have HL110_5 := n6_; have HB := n7_; have HO113 := n8_; clear n0_ n1_ n2_ n3_ n4_ n5_ n6_ n7_ n8_; clear ho hb hg hat)))
              go_roundg k1
              case measure => have := HK1.out; omega
              case rel => exact ⟨(y111), (wrap64 (x4_1 + 1)), (by first | rfl | (simp; done) | (simp [*]; done)), H', ⟨by have := HK1.out; omega⟩, ⟨by (with_reducible repeat (first | apply Kd.V_alloc | apply Kd.V_drewN | apply Kd.V_drew)); exact HO_0.out⟩, ⟨by (with_reducible repeat (first | apply Kd.N_alloc | apply Kd.N_drewN | apply Kd.N_drew)); exact HO113.out⟩, ⟨by repeat (first | (with_reducible first | exact HB.out | apply below_alloc | apply pw_below_drewN | apply below_drew1) | exact HB.out)⟩⟩
            · rw [if_neg c6] at H
              exact absurd H (by simp)
          · rw [if_neg c5] at H
            have c5b0 : (t109 == x4_1) = false := beq_eq_false_iff_ne.mpr c5
            have c5b1 : (t109 != x4_1) = true := bne_iff_ne.mpr c5
            have H' := Aside0.mk H
            clear H
            have p107 : 0 ≤ (x4_1 : Int) := of_decide_eq_true (by first | (with_reducible assumption) | assumption)
            have q107 : x4_1 < (l0.length : Int) := of_decide_eq_true (by first | (with_reducible assumption) | assumption)
            obtain ⟨ad107, A107_4, c107_4, A107_5, c107_5, e107, hx107_0, hx107_1, hx107_2, hx107_3, hx107_4, hx107_5, hl107_4, hi107_4, hl107_5, hi107_5⟩ := at_T26 (Kd.V_reads' HO_0.out).2.2 x4_1 p107 q107
            cases e107
            obtain ⟨ce107, hce107, hMe107, hcc107⟩ := Kd.V_get HO_0.out z26 x4_1 p107 (by first | exact q107 | exact of_decide_eq_true (by first | (with_reducible assumption) | assumption) | (have e_ := (Kd.V_reads' HO_0.out).1; omega))
            obtain ⟨ua107_4, uc107_4, ua107_5, uc107_5, rfl, ul107_4, ge107_4, ul107_5, ge107_5⟩ := k26_openF hMe107
            have hv107_4 := hcc107 4 _ rfl
            rw [add_field _ _ 4 (by omega)] at hv107_4
            replace hv107_4 := Option.some.inj (hv107_4.symm.trans hx107_4)
            injection hv107_4 with hva_ hvn_ hvc_
            rw [hva_] at ge107_4
            rw [hvc_] at ul107_4
            have HL107_4 := Aside0.mk (show Kd.V k26 26 _ w.heap.size _ _ ((rd_T26 l0 x4_1).f4) from Kd.V_mk ul107_4 ge107_4)
            clear hva_ hvn_ hvc_ ge107_4 ul107_4
            have hv107_5 := hcc107 5 _ rfl
            rw [add_field _ _ 5 (by omega)] at hv107_5
            replace hv107_5 := Option.some.inj (hv107_5.symm.trans hx107_5)
            injection hv107_5 with hva_ hvn_ hvc_
            rw [hva_] at ge107_5
            rw [hvc_] at ul107_5
            have HL107_5 := Aside0.mk (show Kd.V k26 26 _ w.heap.size _ _ ((rd_T26 l0 x4_1).f5) from Kd.V_mk ul107_5 ge107_5)
            clear hva_ hvn_ hvc_ ge107_5 ul107_5
            clear hcc107 hce107
            have HR107_4 := Aside0.mk hi107_4
            have HC107_4 := Aside0.mk hl107_4
            clear hi107_4 hl107_4
            have HR107_5 := Aside0.mk hi107_5
            have HC107_5 := Aside0.mk hl107_5
            clear hi107_5 hl107_5
            replace p107 := eq_true p107
            replace q107 := eq_true q107
            have p108 : 0 ≤ (x4_1 : Int) := of_decide_eq_true (by first | (with_reducible assumption) | assumption)
            have q108 : x4_1 < (l0.length : Int) := of_decide_eq_true (by first | (with_reducible assumption) | assumption)
            obtain ⟨ad108, A108_4, c108_4, A108_5, c108_5, e108, hx108_0, hx108_1, hx108_2, hx108_3, hx108_4, hx108_5, hl108_4, hi108_4, hl108_5, hi108_5⟩ := at_T26 (Kd.V_reads' HO_0.out).2.2 x4_1 p108 q108
            obtain rfl : ad107 = ad108 := (by injection e108)
            obtain ⟨ce108, hce108, hMe108, hcc108⟩ := Kd.V_get HO_0.out z26 x4_1 p108 (by first | exact q108 | exact of_decide_eq_true (by first | (with_reducible assumption) | assumption) | (have e_ := (Kd.V_reads' HO_0.out).1; omega))
            obtain ⟨ua108_4, uc108_4, ua108_5, uc108_5, rfl, ul108_4, ge108_4, ul108_5, ge108_5⟩ := k26_openF hMe108
            have hv108_4 := hcc108 4 _ rfl
            rw [add_field _ _ 4 (by omega)] at hv108_4
            replace hv108_4 := Option.some.inj (hv108_4.symm.trans hx108_4)
            injection hv108_4 with hva_ hvn_ hvc_
            rw [hva_] at ge108_4
            rw [hvc_] at ul108_4
            have HL108_4 := Aside0.mk (show Kd.V k26 26 _ w.heap.size _ _ ((rd_T26 l0 x4_1).f4) from Kd.V_mk ul108_4 ge108_4)
            clear hva_ hvn_ hvc_ ge108_4 ul108_4
            have hv108_5 := hcc108 5 _ rfl
            rw [add_field _ _ 5 (by omega)] at hv108_5
            replace hv108_5 := Option.some.inj (hv108_5.symm.trans hx108_5)
            injection hv108_5 with hva_ hvn_ hvc_
            rw [hva_] at ge108_5
            rw [hvc_] at ul108_5
            have HL108_5 := Aside0.mk (show Kd.V k26 26 _ w.heap.size _ _ ((rd_T26 l0 x4_1).f5) from Kd.V_mk ul108_5 ge108_5)
            clear hva_ hvn_ hvc_ ge108_5 ul108_5
            clear hcc108 hce108
            have HR108_4 := Aside0.mk hi108_4
            have HC108_4 := Aside0.mk hl108_4
            clear hi108_4 hl108_4
            have HR108_5 := Aside0.mk hi108_5
            have HC108_5 := Aside0.mk hl108_5
            clear hi108_5 hl108_5
            replace p108 := eq_true p108
            replace q108 := eq_true q108
            have ea_ := Option.some.inj (hx107_4.symm.trans hx108_4)
            injection ea_ with ea_ en_ ec_
            subst ea_
            subst ec_
            clear en_
            have ea_ := Option.some.inj (hx107_5.symm.trans hx108_5)
            injection ea_ with ea_ en_ ec_
            subst ea_
            subst ec_
            clear en_
            go_wp2_with (first | (go_at_call 28; (with_reducible refine (orielref11_Find.calls k1 _ _ l0 ((rd_T26 l0 x4_1).f0) ((rd_T26 l0 x4_1).f1) t109 _ ?side1 ?side2 A4.out).mono ?_); (case side1 => repeat (first | exact (Kd.V_reads' HO_0.out).2.2 | (with_reducible refine Kd.C_alloc ?_ _) | (with_reducible refine Kd.C_drewN ?_ _) | (with_reducible refine Kd.C_drew ?_))); (case side2 => exact (Kd.V_reads' HO_0.out).2.1); rintro e w' ⟨rfl, ⟨nd, rfl⟩⟩; (try first | exact ⟨rfl, _, World.drewN_drewN _ _ _⟩ | exact ⟨rfl, _, Eq.trans (World.drewN_drewN _ _ _) (congrArg (World.drewN _) (Nat.add_assoc _ _ _))⟩)))
            repeat (go_quiet (first | (go_at_call 28; (with_reducible refine (orielref11_Find.calls k1 _ _ l0 ((rd_T26 l0 x4_1).f0) ((rd_T26 l0 x4_1).f1) t109 _ ?side1 ?side2 A4.out).mono ?_); (case side1 => repeat (first | exact (Kd.V_reads' HO_0.out).2.2 | (with_reducible refine Kd.C_alloc ?_ _) | (with_reducible refine Kd.C_drewN ?_ _) | (with_reducible refine Kd.C_drew ?_))); (case side2 => exact (Kd.V_reads' HO_0.out).2.1); rintro e w' ⟨rfl, ⟨nd, rfl⟩⟩; (try first | exact ⟨rfl, _, World.drewN_drewN _ _ _⟩ | exact ⟨rfl, _, Eq.trans (World.drewN_drewN _ _ _) (congrArg (World.drewN _) (Nat.add_assoc _ _ _))⟩))); try go_wp2_with (first | (go_at_call 28; (with_reducible refine (orielref11_Find.calls k1 _ _ l0 ((rd_T26 l0 x4_1).f0) ((rd_T26 l0 x4_1).f1) t109 _ ?side1 ?side2 A4.out).mono ?_); (case side1 => repeat (first | exact (Kd.V_reads' HO_0.out).2.2 | (with_reducible refine Kd.C_alloc ?_ _) | (with_reducible refine Kd.C_drewN ?_ _) | (with_reducible refine Kd.C_drew ?_))); (case side2 => exact (Kd.V_reads' HO_0.out).2.1); rintro e w' ⟨rfl, ⟨nd, rfl⟩⟩; (try first | exact ⟨rfl, _, World.drewN_drewN _ _ _⟩ | exact ⟨rfl, _, Eq.trans (World.drewN_drewN _ _ _) (congrArg (World.drewN _) (Nat.add_assoc _ _ _))⟩))))
            go_roundg k1
            case measure => have := HK1.out; omega
            case rel => exact ⟨(x3_1), (wrap64 (x4_1 + 1)), (by first | rfl | (simp; done) | (simp [*]; done)), H', ⟨by have := HK1.out; omega⟩, ⟨by (with_reducible repeat (first | apply Kd.V_alloc | apply Kd.V_drewN | apply Kd.V_drew)); exact HO_0.out⟩, ⟨by (with_reducible repeat (first | apply Kd.N_alloc | apply Kd.N_drewN | apply Kd.N_drew)); exact HO_3.out⟩, ⟨by repeat (first | (with_reducible first | exact HB.out | apply below_alloc | apply pw_below_drewN | apply below_drew1) | exact HB.out)⟩⟩
        · rw [if_neg c3] at H
          exact absurd H (by simp)
      · rw [if_neg c2] at H
        have c2b0 : decide (x4_1 < (l0.length : Int)) = false := decide_eq_false c2
        clear c2
        obtain rfl := Option.some.inj H
        go_wp2
        repeat (go_quiet (fail); try go_wp2)
        go_ret
        exact ⟨_, by first | rfl | (simp [errW_none, errW_some] <;> rfl) | (simp [*, errW_none, errW_some] <;> rfl), by (with_reducible repeat (first | apply Kd.N_alloc | apply Kd.N_drewN | apply Kd.N_drew)); exact HO_3.out, by repeat (first | (with_reducible first | exact HB.out | apply below_alloc | apply pw_below_drewN | apply below_drew1) | exact HB.out)⟩

end Go.Proofs.Ytkdfbfhajojdeaa.POP
