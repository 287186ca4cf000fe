-- Written by ownprint.py, a program of this session (out of the kit's print, with contracts of the session's own).
import Derived.Test.YtnemooemifbbhaaDoorPDDx0
import Derived.Test.YtnemooemifbbhaaDoorPDDx6
import Derived.Test.YtnemooemifbbhaaDoorPDDx7
import Derived.Test.YtnemooemifbbhaaDoorPDDx10
namespace Go.Proofs.YtnemooemifbbhaaDoor.PDD
open Go.RowKit Go.Proofs.YtnemooemifbbhaaDoorW.PrintWords Go.Proofs.YtnemooemifbbhaaDoorW.PrintLast Go.Proofs.YtnemooemifbbhaaDoorW.PrintMore
attribute [local go_sem] max2_int min2_int max_two min_two max_three min_three max_four min_four   -- for this text's walks alone
set_option linter.unusedVariables false
set_option linter.unusedSimpArgs false

/-! ### oriellaw27_DiffDoes: function 6 -/
def oriellaw27_DiffDoes.j0 : Nat → ByteArray → ByteArray → Bool → Option (Bool)
  | 0, _, _, _ => none
  | k + 1, x0, x1, x17 => if x17 = true then ((oriellaw27_alive.f k).bind fun t155 => (some t155)) else ((diff_Edits.f k x0 x1).bind fun t156 => ((edit_Apply.f k x0 t156).bind fun bt159 => ((diff_Edits.f k x1 x0).bind fun t161 => ((edit_Apply.f k x1 t161).bind fun bt164 => (if (wrap64 (bt159.2 + bt164.2)) = 0 then (if bt159.1.toList = x1.toList then (if bt164.1.toList = x0.toList then ((diff_Edits.f k x0 x0).bind fun t166 => (if (t166.length : Int) = 0 then (if (((t156.length : Int) == 0) == (x0.toList == x1.toList)) = true then ((oriellaw27_alive.f k).bind fun t169 => (some t169)) else (none)) else (none))) else (none)) else (none)) else (none))))))
def oriellaw27_DiffDoes.f (k : Nat) (a0 : ByteArray) (a1 : ByteArray) : Option (Bool) := if (a0.size : Int) > 1000 then (oriellaw27_DiffDoes.j0 k a0 a1 true) else (oriellaw27_DiffDoes.j0 k a0 a1 (decide ((a1.size : Int) > 1000)))
theorem oriellaw27_DiffDoes.mono_l : ∀ k, (∀ y0 y1 y2, LeO (oriellaw27_DiffDoes.j0 k y0 y1 y2) (oriellaw27_DiffDoes.j0 (k + 1) y0 y1 y2))
  | 0 => fun _ _ _ r h => by simp [oriellaw27_DiffDoes.j0] at h
  | k + 1 => by
    have ih0 := oriellaw27_DiffDoes.mono_l k
    · intro y0 y1 y2
      unfold oriellaw27_DiffDoes.j0
      repeat' first
      | (with_reducible exact ih0 _ _ _)
      | (with_reducible exact diff_Edits.mono _ _ _)
      | (with_reducible exact edit_Apply.mono _ _ _)
      | (with_reducible exact oriellaw27_alive.mono _)
      | (with_reducible exact LeO.refl _)
      | (with_reducible exact LeO.none _)
      | (with_reducible refine LeO.ite ?_ ?_)
      | (with_reducible refine LeO.bind ?_ (fun _ => ?_))
      | exact ih0 _ _ _
      | exact diff_Edits.mono _ _ _
      | exact edit_Apply.mono _ _ _
      | exact oriellaw27_alive.mono _
      | exact LeO.none _
      | refine LeO.ite ?_ ?_
      | refine LeO.bind ?_ (fun _ => ?_)
theorem oriellaw27_DiffDoes.mono : ∀ a0 a1 k, LeO (oriellaw27_DiffDoes.f k a0 a1) (oriellaw27_DiffDoes.f (k + 1) a0 a1) := by
  intro a0 a1 k
  have ih0 := oriellaw27_DiffDoes.mono_l k
  unfold oriellaw27_DiffDoes.f
  repeat' first
      | (with_reducible exact ih0 _ _ _)
      | (with_reducible exact diff_Edits.mono _ _ _)
      | (with_reducible exact edit_Apply.mono _ _ _)
      | (with_reducible exact oriellaw27_alive.mono _)
      | (with_reducible exact LeO.refl _)
      | (with_reducible exact LeO.none _)
      | (with_reducible refine LeO.ite ?_ ?_)
      | (with_reducible refine LeO.bind ?_ (fun _ => ?_))
      | exact ih0 _ _ _
      | exact diff_Edits.mono _ _ _
      | exact edit_Apply.mono _ _ _
      | exact oriellaw27_alive.mono _
      | exact LeO.none _
      | refine LeO.ite ?_ ?_
      | refine LeO.bind ?_ (fun _ => ?_)
set_option maxHeartbeats 8000000 in
set_option maxRecDepth 100000 in
theorem oriellaw27_DiffDoes.calls (k : Nat) (a0 : ByteArray) (a1 : ByteArray) (r : Bool) (w : World) (h : oriellaw27_DiffDoes.f k a0 a1 = some r) :
    Calls Tryd.prog 6 #[.string a0, .string a1] w fun e w' => e = .returned (.bool r) ∧ Below w.heap.size w w' := by
  have HB := Aside0.mk (Below.refl w.heap.size w)
  have H : (if (a0.size : Int) > 1000 then (oriellaw27_DiffDoes.j0 k a0 a1 true) else (oriellaw27_DiffDoes.j0 k a0 a1 (decide ((a1.size : Int) > 1000)))) = some r := h
  clear h
  have HC3 := Aside0.mk H
  clear H
  go_enter Tryd.func6, Tryd.ntmps6
  go_upto_region 1 with (fail)
  go_cut [17] (fun v17 wc => ∃ (kq : Nat) (x17_2 : Bool), v17 = .bool x17_2 ∧ Aside0 (oriellaw27_DiffDoes.j0 kq a0 a1 x17_2 = some r) ∧ Aside0 (kq ≤ k) ∧ Aside0 (Below w.heap.size w wc))
  case first =>
    have H := HC3.out
    clear HC3
    by_cases c4 : (a0.size : Int) > 1000
    · rw [if_pos c4] at H
      have c4b0 : decide (1000 < (a0.size : Int)) = true := decide_eq_true c4
      have c4b1 : decide (1000 < a0.size) = true := decide_eq_true (by omega)
      clear c4
      (first | rw [c4b0] | (simp only [i64_w, i32_w]; rw [c4b0]) | skip)
      have H' := Aside0.mk H
      clear H
      go_wp2
      go_meet
      case rel => exact ⟨_, (true), (by first | rfl | (simp; done) | (simp [*]; done)), H', ⟨by first | omega | exact Nat.le_refl _⟩, ⟨by repeat (first | (with_reducible first | exact HB.out | apply below_alloc | apply pw_below_drewN | apply below_drew1) | exact HB.out)⟩⟩
    · rw [if_neg c4] at H
      have c4b0 : decide (1000 < (a0.size : Int)) = false := decide_eq_false c4
      have c4b1 : decide (1000 < a0.size) = false := decide_eq_false (by omega)
      clear c4
      (first | rw [c4b0] | (simp only [i64_w, i32_w]; rw [c4b0]) | skip)
      have H' := Aside0.mk H
      clear H
      go_wp2
      go_meet
      case rel => exact ⟨_, (decide ((a1.size : Int) > 1000)), (by first | rfl | (simp; done) | (simp [*]; done)), H', ⟨by first | omega | exact Nat.le_refl _⟩, ⟨by repeat (first | (with_reducible first | exact HB.out | apply below_alloc | apply pw_below_drewN | apply below_drew1) | exact HB.out)⟩⟩
  case rest =>
    clear HC3
    try clear p2
    try clear c4
    try clear c4b0
    try clear c4b1
    obtain ⟨kq, x17_2, rfl, HA, HJ2, HB⟩ := hcut
    cases kq with
    | zero => exact absurd HA.out (by simp [oriellaw27_DiffDoes.j0])
    | succ kj2 =>
      have H := HA.out
      clear HA
      simp only [oriellaw27_DiffDoes.j0] at H
      by_cases c5 : x17_2 = true
      · subst c5
        have H1 : ((oriellaw27_alive.f kj2).bind fun t155 => (some t155)) = some r := by rw [if_pos rfl] at H; exact H
        clear H
        have H := H1
        clear H1
        replace H := Option.bind_eq_some_iff.mp H
        obtain ⟨t155, A60, H⟩ := H
        replace H : (some t155) = some r := H
        have A6 := Aside0.mk A60
        clear A60
        obtain rfl := Option.some.inj H
        go_wp2_with (first | ((with_reducible refine gate_callee (f := 9) rfl ?_); refine goesL_ (some 18) rfl rfl Tryd.func9 (by kernel_rfl) rfl #[] rfl (by (try simp only [List.map_toArray, List.map_cons, List.map_nil]); first | done | rfl | (simp only [List.length_drop, List.length_take]; rfl)) ?_; (with_reducible refine (oriellaw27_alive.calls kj2  t155 _ A6.out).mono ?_); rintro e w7 ⟨rfl, hb⟩; refine ⟨_, rfl, ?_⟩; have n0_ := Aside0.mk (below_step (by repeat (first | (with_reducible first | exact HB.out | apply below_alloc | apply pw_below_drewN | apply below_drew1) | exact HB.out)) hb); clear HB; have HB := n0_; clear n0_; (try clear hb); (try clear hb2); (try clear hk); (try clear hi)))
        go_ret
        exact ⟨by first | rfl | (simp [errW_none, errW_some] <;> rfl) | (simp [*, errW_none, errW_some] <;> rfl), by repeat (first | (with_reducible first | exact HB.out | apply below_alloc | apply pw_below_drewN | apply below_drew1) | exact HB.out)⟩
      · replace c5 := Bool.eq_false_iff.mpr c5
        subst c5
        have H1 : ((diff_Edits.f kj2 a0 a1).bind fun t156 => ((edit_Apply.f kj2 a0 t156).bind fun bt159 => ((diff_Edits.f kj2 a1 a0).bind fun t161 => ((edit_Apply.f kj2 a1 t161).bind fun bt164 => (if (wrap64 (bt159.2 + bt164.2)) = 0 then (if bt159.1.toList = a1.toList then (if bt164.1.toList = a0.toList then ((diff_Edits.f kj2 a0 a0).bind fun t166 => (if (t166.length : Int) = 0 then (if (((t156.length : Int) == 0) == (a0.toList == a1.toList)) = true then ((oriellaw27_alive.f kj2).bind fun t169 => (some t169)) else (none)) else (none))) else (none)) else (none)) else (none)))))) = some r := by rw [if_neg (show ¬ (false = true) by decide)] at H; exact H
        clear H
        have H := H1
        clear H1
        replace H := Option.bind_eq_some_iff.mp H
        obtain ⟨t156, A80, H⟩ := H
        replace H : ((edit_Apply.f kj2 a0 t156).bind fun bt159 => ((diff_Edits.f kj2 a1 a0).bind fun t161 => ((edit_Apply.f kj2 a1 t161).bind fun bt164 => (if (wrap64 (bt159.2 + bt164.2)) = 0 then (if bt159.1.toList = a1.toList then (if bt164.1.toList = a0.toList then ((diff_Edits.f kj2 a0 a0).bind fun t166 => (if (t166.length : Int) = 0 then (if (((t156.length : Int) == 0) == (a0.toList == a1.toList)) = true then ((oriellaw27_alive.f kj2).bind fun t169 => (some t169)) else (none)) else (none))) else (none)) else (none)) else (none))))) = some r := H
        have A8 := Aside0.mk A80
        clear A80
        replace H := Option.bind_eq_some_iff.mp H
        obtain ⟨⟨t159, t160⟩, A90, H⟩ := H
        replace H : ((diff_Edits.f kj2 a1 a0).bind fun t161 => ((edit_Apply.f kj2 a1 t161).bind fun bt164 => (if (wrap64 (t160 + bt164.2)) = 0 then (if t159.toList = a1.toList then (if bt164.1.toList = a0.toList then ((diff_Edits.f kj2 a0 a0).bind fun t166 => (if (t166.length : Int) = 0 then (if (((t156.length : Int) == 0) == (a0.toList == a1.toList)) = true then ((oriellaw27_alive.f kj2).bind fun t169 => (some t169)) else (none)) else (none))) else (none)) else (none)) else (none)))) = some r := H
        have A9 := Aside0.mk A90
        clear A90
        replace H := Option.bind_eq_some_iff.mp H
        obtain ⟨t161, A100, H⟩ := H
        replace H : ((edit_Apply.f kj2 a1 t161).bind fun bt164 => (if (wrap64 (t160 + bt164.2)) = 0 then (if t159.toList = a1.toList then (if bt164.1.toList = a0.toList then ((diff_Edits.f kj2 a0 a0).bind fun t166 => (if (t166.length : Int) = 0 then (if (((t156.length : Int) == 0) == (a0.toList == a1.toList)) = true then ((oriellaw27_alive.f kj2).bind fun t169 => (some t169)) else (none)) else (none))) else (none)) else (none)) else (none))) = some r := H
        have A10 := Aside0.mk A100
        clear A100
        replace H := Option.bind_eq_some_iff.mp H
        obtain ⟨⟨t164, t165⟩, A110, H⟩ := H
        replace H : (if (wrap64 (t160 + t165)) = 0 then (if t159.toList = a1.toList then (if t164.toList = a0.toList then ((diff_Edits.f kj2 a0 a0).bind fun t166 => (if (t166.length : Int) = 0 then (if (((t156.length : Int) == 0) == (a0.toList == a1.toList)) = true then ((oriellaw27_alive.f kj2).bind fun t169 => (some t169)) else (none)) else (none))) else (none)) else (none)) else (none)) = some r := H
        have A11 := Aside0.mk A110
        clear A110
        by_cases c12 : (wrap64 (t160 + t165)) = 0
        · rw [if_pos c12] at H
          have c12b0 : ((wrap64 (t160 + t165)) == 0) = true := beq_iff_eq.mpr c12
          have c12b1 : ((wrap64 (t160 + t165)) != 0) = false := bne_eq_false_iff_eq.mpr c12
          clear c12
          by_cases c13 : t159.toList = a1.toList
          · rw [if_pos c13] at H
            have c13b0 : (t159.toList == a1.toList) = true := beq_iff_eq.mpr c13
            have c13b1 : (t159.toList != a1.toList) = false := bne_eq_false_iff_eq.mpr c13
            clear c13
            by_cases c14 : t164.toList = a0.toList
            · rw [if_pos c14] at H
              have c14b0 : (t164.toList == a0.toList) = true := beq_iff_eq.mpr c14
              have c14b1 : (t164.toList != a0.toList) = false := bne_eq_false_iff_eq.mpr c14
              clear c14
              replace H := Option.bind_eq_some_iff.mp H
              obtain ⟨t166, A150, H⟩ := H
              replace H : (if (t166.length : Int) = 0 then (if (((t156.length : Int) == 0) == (a0.toList == a1.toList)) = true then ((oriellaw27_alive.f kj2).bind fun t169 => (some t169)) else (none)) else (none)) = some r := H
              have A15 := Aside0.mk A150
              clear A150
              by_cases c16 : (t166.length : Int) = 0
              · rw [if_pos c16] at H
                have c16b0 : ((t166.length : Int) == 0) = true := beq_iff_eq.mpr c16
                have c16b1 : ((t166.length : Int) != 0) = false := bne_eq_false_iff_eq.mpr c16
                clear c16
                by_cases c17 : (((t156.length : Int) == 0) == (a0.toList == a1.toList)) = true
                · rw [if_pos c17] at H
                  have c17b0 : (((t156.length : Int) == 0) == (a0.toList == a1.toList)) = true := c17
                  (try (have c17b1 : decide (((t156.length : Int) == 0) = (a0.toList == a1.toList)) = true := by simpa using c17))
                  (try (have c17b2 : (((t156.length : Int) == 0) == (a0.toList == a1.toList)) = true := by simpa using c17))
                  clear c17
                  replace H := Option.bind_eq_some_iff.mp H
                  obtain ⟨t169, A180, H⟩ := H
                  replace H : (some t169) = some r := H
                  have A18 := Aside0.mk A180
                  clear A180
                  obtain rfl := Option.some.inj H
                  go_wp2_with (first | ((with_reducible refine gate_callee (f := 17) rfl ?_); refine goesL_ (some 21) rfl rfl Tryd.func17 (by kernel_rfl) rfl #[.string a0, .string a1] rfl (by (try simp only [List.map_toArray, List.map_cons, List.map_nil]); first | done | rfl | (simp only [List.length_drop, List.length_take]; rfl)) ?_; (with_reducible refine (diff_Edits.calls kj2 a0 a1 t156 _ A8.out).mono ?_); rintro e w19 ⟨v157, rfl, ho0, hb⟩; refine ⟨_, rfl, ?_⟩; have n0_ := Aside0.mk (Kd.R_lower ho0 (below_size (by repeat (first | (with_reducible first | exact HB.out | apply below_alloc | apply pw_below_drewN | apply below_drew1) | exact HB.out)))); have n1_ := Aside0.mk (below_step (by repeat (first | (with_reducible first | exact HB.out | apply below_alloc | apply pw_below_drewN | apply below_drew1) | exact HB.out)) hb); clear HB; have HO158 := n0_; have HB := n1_; clear n0_ n1_; (try clear hb); (try clear hb2); (try clear hk); (try clear hi); (try clear ho0); obtain ⟨Ao20, co20, eo20⟩ := Kd.R_slice HO158.out; subst eo20) | ((with_reducible refine gate_callee (f := 24) rfl ?_); refine goesL_ (some 25) rfl rfl Tryd.func24 (by kernel_rfl) rfl #[.string a0, .slice Ao20 t156.length co20] rfl (by (try simp only [List.map_toArray, List.map_cons, List.map_nil]); first | done | rfl | (simp only [List.length_drop, List.length_take]; rfl)) ?_; (with_reducible refine (edit_Apply.calls kj2 a0 _ _ t156 t159 t160 _ ?side1 ?side2 A9.out).mono ?_); (case side1 => repeat (first | exact (Kd.R_reads' HO158.out).2.2 | (with_reducible refine Kd.C_alloc ?_ _) | (with_reducible refine Kd.C_drewN ?_ _) | (with_reducible refine Kd.C_drew ?_))); (case side2 => exact (Kd.R_reads' HO158.out).2.1); rintro e w21 ⟨rfl, hb⟩; refine ⟨_, rfl, ?_⟩; have n0_ := Aside0.mk (Kd.R_below (by (with_reducible repeat (first | apply Kd.R_alloc | apply Kd.R_drewN | apply Kd.R_drew)); exact HO158.out) hb); have n1_ := Aside0.mk (below_step (by repeat (first | (with_reducible first | exact HB.out | apply below_alloc | apply pw_below_drewN | apply below_drew1) | exact HB.out)) hb); clear HO158; clear HB; have HO158 := n0_; have HB := n1_; clear n0_ n1_; (try clear hb); (try clear hb2); (try clear hk); (try clear hi)) | ((with_reducible refine gate_callee (f := 17) rfl ?_); refine goesL_ (some 32) rfl rfl Tryd.func17 (by kernel_rfl) rfl #[.string a1, .string a0] rfl (by (try simp only [List.map_toArray, List.map_cons, List.map_nil]); first | done | rfl | (simp only [List.length_drop, List.length_take]; rfl)) ?_; (with_reducible refine (diff_Edits.calls kj2 a1 a0 t161 _ A10.out).mono ?_); rintro e w22 ⟨v162, rfl, ho0, hb⟩; refine ⟨_, rfl, ?_⟩; have n0_ := Aside0.mk (Kd.R_elder' (by (with_reducible repeat (first | apply Kd.R_alloc | apply Kd.R_drewN | apply Kd.R_drew)); exact HO158.out) (Kd.R_base ho0) hb); have n1_ := Aside0.mk (Kd.R_lower (Kd.R_new' ho0 (Kd.R_lt (by (with_reducible repeat (first | apply Kd.R_alloc | apply Kd.R_drewN | apply Kd.R_drew)); exact HO158.out))) (below_size (by repeat (first | (with_reducible first | exact HB.out | apply below_alloc | apply pw_below_drewN | apply below_drew1) | exact HB.out)))); have n2_ := Aside0.mk (below_step (by repeat (first | (with_reducible first | exact HB.out | apply below_alloc | apply pw_below_drewN | apply below_drew1) | exact HB.out)) hb); clear HO158; clear HB; have HO158 := n0_; have HO163 := n1_; have HB := n2_; clear n0_ n1_ n2_; (try clear hb); (try clear hb2); (try clear hk); (try clear hi); (try clear ho0); obtain ⟨Ao23, co23, eo23⟩ := Kd.R_slice HO163.out; subst eo23) | ((with_reducible refine gate_callee (f := 24) rfl ?_); refine goesL_ (some 33) rfl rfl Tryd.func24 (by kernel_rfl) rfl #[.string a1, .slice Ao23 t161.length co23] rfl (by (try simp only [List.map_toArray, List.map_cons, List.map_nil]); first | done | rfl | (simp only [List.length_drop, List.length_take]; rfl)) ?_; (with_reducible refine (edit_Apply.calls kj2 a1 _ _ t161 t164 t165 _ ?side1 ?side2 A11.out).mono ?_); (case side1 => repeat (first | exact (Kd.R_reads' HO163.out).2.2 | (with_reducible refine Kd.C_alloc ?_ _) | (with_reducible refine Kd.C_drewN ?_ _) | (with_reducible refine Kd.C_drew ?_))); (case side2 => exact (Kd.R_reads' HO163.out).2.1); rintro e w24 ⟨rfl, hb⟩; refine ⟨_, rfl, ?_⟩; have n0_ := Aside0.mk (Kd.R_below (by (with_reducible repeat (first | apply Kd.R_alloc | apply Kd.R_drewN | apply Kd.R_drew)); exact HO158.out) hb); have n1_ := Aside0.mk (Kd.R_below (by (with_reducible repeat (first | apply Kd.R_alloc | apply Kd.R_drewN | apply Kd.R_drew)); exact HO163.out) hb); have n2_ := Aside0.mk (below_step (by repeat (first | (with_reducible first | exact HB.out | apply below_alloc | apply pw_below_drewN | apply below_drew1) | exact HB.out)) hb); clear HO158; clear HO163; clear HB; have HO158 := n0_; have HO163 := n1_; have HB := n2_; clear n0_ n1_ n2_; (try clear hb); (try clear hb2); (try clear hk); (try clear hi)) | (go_at_call 17; (with_reducible refine (diff_Edits.calls kj2 a0 a0 t166 _ A15.out).mono ?_); rintro e w25 ⟨v167, rfl, ho0, hb⟩; have n0_ := Aside0.mk (Kd.R_elder' (by (with_reducible repeat (first | apply Kd.R_alloc | apply Kd.R_drewN | apply Kd.R_drew)); exact HO158.out) (Kd.R_base ho0) hb); have n1_ := Aside0.mk (Kd.R_elder' (by (with_reducible repeat (first | apply Kd.R_alloc | apply Kd.R_drewN | apply Kd.R_drew)); exact HO163.out) (Kd.R_base ho0) hb); have n2_ := Aside0.mk (Kd.R_lower (Kd.R_new' (Kd.R_new' ho0 (Kd.R_lt (by (with_reducible repeat (first | apply Kd.R_alloc | apply Kd.R_drewN | apply Kd.R_drew)); exact HO158.out))) (Kd.R_lt (by (with_reducible repeat (first | apply Kd.R_alloc | apply Kd.R_drewN | apply Kd.R_drew)); exact HO163.out))) (below_size (by repeat (first | (with_reducible first | exact HB.out | apply below_alloc | apply pw_below_drewN | apply below_drew1) | exact HB.out)))); have n3_ := Aside0.mk (below_step (by repeat (first | (with_reducible first | exact HB.out | apply below_alloc | apply pw_below_drewN | apply below_drew1) | exact HB.out)) hb); clear HO158; clear HO163; clear HB; have HO158 := n0_; have HO163 := n1_; have HO168 := n2_; have HB := n3_; clear n0_ n1_ n2_ n3_; (try clear hb); (try clear hb2); (try clear hk); (try clear hi); (try clear ho0); obtain ⟨Ao26, co26, eo26⟩ := Kd.R_slice HO168.out; subst eo26) | (go_at_call 9; (with_reducible refine (oriellaw27_alive.calls kj2  t169 _ A18.out).mono ?_); rintro e w27 ⟨rfl, hb⟩; have n0_ := Aside0.mk (Kd.R_below (by (with_reducible repeat (first | apply Kd.R_alloc | apply Kd.R_drewN | apply Kd.R_drew)); exact HO158.out) hb); have n1_ := Aside0.mk (Kd.R_below (by (with_reducible repeat (first | apply Kd.R_alloc | apply Kd.R_drewN | apply Kd.R_drew)); exact HO163.out) hb); have n2_ := Aside0.mk (Kd.R_below (by (with_reducible repeat (first | apply Kd.R_alloc | apply Kd.R_drewN | apply Kd.R_drew)); exact HO168.out) hb); have n3_ := Aside0.mk (below_step (by repeat (first | (with_reducible first | exact HB.out | apply below_alloc | apply pw_below_drewN | apply below_drew1) | exact HB.out)) hb); clear HO158; clear HO163; clear HO168; clear HB; have HO158 := n0_; have HO163 := n1_; have HO168 := n2_; have HB := n3_; clear n0_ n1_ n2_ n3_; (try clear hb); (try clear hb2); (try clear hk); (try clear hi)))
                  go_ret
                  exact ⟨by first | rfl | (simp [errW_none, errW_some] <;> rfl) | (simp [*, errW_none, errW_some] <;> rfl), by repeat (first | (with_reducible first | exact HB.out | apply below_alloc | apply pw_below_drewN | apply below_drew1) | exact HB.out)⟩
                · rw [if_neg c17] at H
                  exact absurd H (by simp)
              · rw [if_neg c16] at H
                exact absurd H (by simp)
            · rw [if_neg c14] at H
              exact absurd H (by simp)
          · rw [if_neg c13] at H
            exact absurd H (by simp)
        · rw [if_neg c12] at H
          exact absurd H (by simp)

end Go.Proofs.YtnemooemifbbhaaDoor.PDD
