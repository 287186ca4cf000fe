-- Written by ownprint.py, a program of this session (out of the kit's print, with contracts of the session's own).
import Derived.Test.YtmgeheomokjimaaPAllx0
import Derived.Test.YtmgeheomokjimaaPAllx3
import Derived.Test.YtmgeheomokjimaaPAllx5
import Derived.Test.YtmgeheomokjimaaPAllx6
import Derived.Test.YtmgeheomokjimaaPAllx7
import Derived.Test.YtmgeheomokjimaaPAllx11
import Derived.Test.YtmgeheomokjimaaPAllx14
import Derived.Test.YtmgeheomokjimaaPAllx15
import Derived.Test.YtmgeheomokjimaaPAllx16
import Derived.Test.YtmgeheomokjimaaPAllx17
namespace Go.Proofs.Ytmgeheomokjimaa.PAll
open Go.RowKit Go.Proofs.YtmgeheomokjimaaW.PrintWords Go.Proofs.YtmgeheomokjimaaW.PrintLast Go.Proofs.YtmgeheomokjimaaW.PrintMore
attribute [local go_sem] max2_int min2_int max_two min_two max_three min_three max_four min_four   -- for this text's walks alone
set_option linter.unusedVariables false
set_option linter.unusedSimpArgs false

/-! ### oriellaw02_EditKeeps: function 3 -/
def oriellaw02_EditKeeps.j0 : Nat → Int → List (S47) → Int → Bool → Option (Bool)
  | 0, _, _, _, _ => none
  | k + 1, x0, x1, x2, x23 => if x23 = true then ((oriellaw02_alive.f k).bind fun t166 => (some t166)) else ((edit_Kept.f k x0 x1).bind fun bt167 => ((orielref02_Kept.f k x0 x1).bind fun bt174 => ((edit_Map.f k x0 x2 x1).bind fun bt181 => ((orielref02_Map.f k x0 x2 x1).bind fun bt183 => ((orielref02_Pairs.f k bt167.1 bt174.1).bind fun t185 => (if t185 = true then ((oriellaw01_Ints.f k bt167.2.1 bt174.2.1).bind fun t186 => (if t186 = true then ((oriellaw01_No.f bt167.2.2).bind fun t187 => (if t187 = bt174.2.2 then (if bt181.1 = bt183.1 then (if (bt181.2 == bt183.2) = true then ((oriellaw02_alive.f k).bind fun t188 => (some t188)) else (none)) else (none)) else (none))) else (none))) else (none)))))))
def oriellaw02_EditKeeps.f (k : Nat) (a0 : Int) (l1 : List (S47)) (a2 : Int) : Option (Bool) := if a0 > 200 then (oriellaw02_EditKeeps.j0 k a0 l1 a2 true) else ((oriellaw02_few.f k l1).bind fun t165 => (oriellaw02_EditKeeps.j0 k a0 l1 a2 (!t165)))
theorem oriellaw02_EditKeeps.mono_l : ∀ k, (∀ y0 y1 y2 y3, LeO (oriellaw02_EditKeeps.j0 k y0 y1 y2 y3) (oriellaw02_EditKeeps.j0 (k + 1) y0 y1 y2 y3))
  | 0 => fun _ _ _ _ r h => by simp [oriellaw02_EditKeeps.j0] at h
  | k + 1 => by
    have ih0 := oriellaw02_EditKeeps.mono_l k
    · intro y0 y1 y2 y3
      unfold oriellaw02_EditKeeps.j0
      repeat' first
      | (with_reducible exact ih0 _ _ _ _)
      | (with_reducible exact edit_Kept.mono _ _ _)
      | (with_reducible exact edit_Map.mono _ _ _ _)
      | (with_reducible exact oriellaw01_Ints.mono _ _ _)
      | (with_reducible exact oriellaw02_alive.mono _)
      | (with_reducible exact oriellaw02_few.mono _ _)
      | (with_reducible exact orielref02_Kept.mono _ _ _)
      | (with_reducible exact orielref02_Map.mono _ _ _ _)
      | (with_reducible exact orielref02_Pairs.mono _ _ _)
      | (with_reducible exact LeO.refl _)
      | (with_reducible exact LeO.none _)
      | (with_reducible refine LeO.ite ?_ ?_)
      | (with_reducible refine LeO.bind ?_ (fun _ => ?_))
      | exact ih0 _ _ _ _
      | exact edit_Kept.mono _ _ _
      | exact edit_Map.mono _ _ _ _
      | exact oriellaw01_Ints.mono _ _ _
      | exact oriellaw02_alive.mono _
      | exact oriellaw02_few.mono _ _
      | exact orielref02_Kept.mono _ _ _
      | exact orielref02_Map.mono _ _ _ _
      | exact orielref02_Pairs.mono _ _ _
      | exact LeO.none _
      | refine LeO.ite ?_ ?_
      | refine LeO.bind ?_ (fun _ => ?_)
theorem oriellaw02_EditKeeps.mono : ∀ a0 a1 a2 k, LeO (oriellaw02_EditKeeps.f k a0 a1 a2) (oriellaw02_EditKeeps.f (k + 1) a0 a1 a2) := by
  intro a0 a1 a2 k
  have ih0 := oriellaw02_EditKeeps.mono_l k
  unfold oriellaw02_EditKeeps.f
  repeat' first
      | (with_reducible exact ih0 _ _ _ _)
      | (with_reducible exact edit_Kept.mono _ _ _)
      | (with_reducible exact edit_Map.mono _ _ _ _)
      | (with_reducible exact oriellaw01_Ints.mono _ _ _)
      | (with_reducible exact oriellaw02_alive.mono _)
      | (with_reducible exact oriellaw02_few.mono _ _)
      | (with_reducible exact orielref02_Kept.mono _ _ _)
      | (with_reducible exact orielref02_Map.mono _ _ _ _)
      | (with_reducible exact orielref02_Pairs.mono _ _ _)
      | (with_reducible exact LeO.refl _)
      | (with_reducible exact LeO.none _)
      | (with_reducible refine LeO.ite ?_ ?_)
      | (with_reducible refine LeO.bind ?_ (fun _ => ?_))
      | exact ih0 _ _ _ _
      | exact edit_Kept.mono _ _ _
      | exact edit_Map.mono _ _ _ _
      | exact oriellaw01_Ints.mono _ _ _
      | exact oriellaw02_alive.mono _
      | exact oriellaw02_few.mono _ _
      | exact orielref02_Kept.mono _ _ _
      | exact orielref02_Map.mono _ _ _ _
      | exact orielref02_Pairs.mono _ _ _
      | exact LeO.none _
      | refine LeO.ite ?_ ?_
      | refine LeO.bind ?_ (fun _ => ?_)
set_option maxHeartbeats 8000000 in
set_option maxRecDepth 100000 in
theorem oriellaw02_EditKeeps.calls (k : Nat) (a0 : Int) (A1 : Option Addr) (c1 : Nat) (l1 : List (S47)) (a2 : Int) (r : Bool) (w : World) (hr1 : Kd.C k47 w A1 l1.length l1) (hc1 : l1.length ≤ c1) (h : oriellaw02_EditKeeps.f k a0 l1 a2 = some r) :
    Calls Try.prog 3 #[.int .i64 a0, .slice A1 l1.length c1, .int .i64 a2] w fun e w' => e = .returned (.bool r) ∧ Below w.heap.size w w' := by
  have HR1 := Aside0.mk hr1
  have HC1 := Aside0.mk hc1
  clear hr1 hc1
  have HB := Aside0.mk (Below.refl w.heap.size w)
  have H : (if a0 > 200 then (oriellaw02_EditKeeps.j0 k a0 l1 a2 true) else ((oriellaw02_few.f k l1).bind fun t165 => (oriellaw02_EditKeeps.j0 k a0 l1 a2 (!t165)))) = some r := h
  clear h
  have HC4 := Aside0.mk H
  clear H
  go_enter Try.func3, Try.ntmps3
  go_upto_region 1 with (fail)
  go_cut [23] (fun v23 wc => ∃ (kq : Nat) (x23_3 : Bool), v23 = .bool x23_3 ∧ Aside0 (oriellaw02_EditKeeps.j0 kq a0 l1 a2 x23_3 = some r) ∧ Aside0 (kq ≤ k) ∧ Aside0 (Below w.heap.size w wc))
  case first =>
    have H := HC4.out
    clear HC4
    by_cases c5 : a0 > 200
    · rw [if_pos c5] at H
      have c5b0 : decide (200 < a0) = true := decide_eq_true c5
      clear c5
      (first | rw [c5b0] | (simp only [i64_w, i32_w]; rw [c5b0]) | skip)
      have H' := Aside0.mk H
      clear H
      go_wp2
      go_meet
      case rel => exact ⟨_, (true), (by first | rfl | (simp; done) | (simp [*]; done)), H', ⟨by first | omega | exact Nat.le_refl _⟩, ⟨by repeat (first | (with_reducible first | exact HB.out | apply below_alloc | apply pw_below_drewN | apply below_drew1) | exact HB.out)⟩⟩
    · rw [if_neg c5] at H
      have c5b0 : decide (200 < a0) = false := decide_eq_false c5
      clear c5
      (first | rw [c5b0] | (simp only [i64_w, i32_w]; rw [c5b0]) | skip)
      replace H := Option.bind_eq_some_iff.mp H
      obtain ⟨t165, A60, H⟩ := H
      replace H : (oriellaw02_EditKeeps.j0 k a0 l1 a2 (!t165)) = some r := H
      have A6 := Aside0.mk A60
      clear A60
      have H' := Aside0.mk H
      clear H
      go_wp2_with (first | (go_at_call 9; (with_reducible refine (oriellaw02_few.calls k _ _ l1 t165 _ ?side1 ?side2 A6.out).mono ?_); (case side1 => repeat (first | exact (Kd.C_below HR1.out HB.out) | (with_reducible refine Kd.C_alloc ?_ _) | (with_reducible refine Kd.C_drewN ?_ _) | (with_reducible refine Kd.C_drew ?_))); (case side2 => exact HC1.out); rintro e w7 ⟨rfl, hb⟩; have n0_ := Aside0.mk (below_step (by repeat (first | (with_reducible first | exact HB.out | apply below_alloc | apply pw_below_drewN | apply below_drew1) | exact HB.out)) hb); clear HB; have HB := n0_; clear n0_; (try clear hb); (try clear hb2); (try clear hk); (try clear hi)))
      go_meet
      case rel => exact ⟨_, (!t165), (by first | rfl | (simp; done) | (simp [*]; done)), H', ⟨by first | omega | exact Nat.le_refl _⟩, ⟨by repeat (first | (with_reducible first | exact HB.out | apply below_alloc | apply pw_below_drewN | apply below_drew1) | exact HB.out)⟩⟩
  case rest =>
    clear HC4
    try clear c1
    try clear p2
    try clear c3
    try clear c5
    try clear c5b0
    obtain ⟨kq, x23_3, rfl, HA, HJ3, HB⟩ := hcut
    cases kq with
    | zero => exact absurd HA.out (by simp [oriellaw02_EditKeeps.j0])
    | succ kj3 =>
      have H := HA.out
      clear HA
      simp only [oriellaw02_EditKeeps.j0] at H
      by_cases c8 : x23_3 = true
      · subst c8
        have H1 : ((oriellaw02_alive.f kj3).bind fun t166 => (some t166)) = some r := by rw [if_pos rfl] at H; exact H
        clear H
        have H := H1
        clear H1
        replace H := Option.bind_eq_some_iff.mp H
        obtain ⟨t166, A90, H⟩ := H
        replace H : (some t166) = some r := H
        have A9 := Aside0.mk A90
        clear A90
        obtain rfl := Option.some.inj H
        go_wp2_with (first | ((with_reducible refine gate_callee (f := 10) rfl ?_); refine goesL_ (some 24) rfl rfl Try.func10 (by kernel_rfl) rfl #[] rfl (by (try simp only [List.map_toArray, List.map_cons, List.map_nil]); first | done | rfl | (simp only [List.length_drop, List.length_take]; rfl)) ?_; (with_reducible refine (oriellaw02_alive.calls kj3  t166 _ A9.out).mono ?_); rintro e w10 ⟨rfl, hb⟩; refine ⟨_, rfl, ?_⟩; have n0_ := Aside0.mk (below_step (by repeat (first | (with_reducible first | exact HB.out | apply below_alloc | apply pw_below_drewN | apply below_drew1) | exact HB.out)) hb); clear HB; have HB := n0_; clear n0_; (try clear hb); (try clear hb2); (try clear hk); (try clear hi)))
        go_ret
        exact ⟨by first | rfl | (simp [errW_none, errW_some] <;> rfl) | (simp [*, errW_none, errW_some] <;> rfl), by repeat (first | (with_reducible first | exact HB.out | apply below_alloc | apply pw_below_drewN | apply below_drew1) | exact HB.out)⟩
      · replace c8 := Bool.eq_false_iff.mpr c8
        subst c8
        have H1 : ((edit_Kept.f kj3 a0 l1).bind fun bt167 => ((orielref02_Kept.f kj3 a0 l1).bind fun bt174 => ((edit_Map.f kj3 a0 a2 l1).bind fun bt181 => ((orielref02_Map.f kj3 a0 a2 l1).bind fun bt183 => ((orielref02_Pairs.f kj3 bt167.1 bt174.1).bind fun t185 => (if t185 = true then ((oriellaw01_Ints.f kj3 bt167.2.1 bt174.2.1).bind fun t186 => (if t186 = true then ((oriellaw01_No.f bt167.2.2).bind fun t187 => (if t187 = bt174.2.2 then (if bt181.1 = bt183.1 then (if (bt181.2 == bt183.2) = true then ((oriellaw02_alive.f kj3).bind fun t188 => (some t188)) else (none)) else (none)) else (none))) else (none))) else (none))))))) = some r := by rw [if_neg (show ¬ (false = true) by decide)] at H; exact H
        clear H
        have H := H1
        clear H1
        replace H := Option.bind_eq_some_iff.mp H
        obtain ⟨⟨t167, t168, t169⟩, A110, H⟩ := H
        replace H : ((orielref02_Kept.f kj3 a0 l1).bind fun bt174 => ((edit_Map.f kj3 a0 a2 l1).bind fun bt181 => ((orielref02_Map.f kj3 a0 a2 l1).bind fun bt183 => ((orielref02_Pairs.f kj3 t167 bt174.1).bind fun t185 => (if t185 = true then ((oriellaw01_Ints.f kj3 t168 bt174.2.1).bind fun t186 => (if t186 = true then ((oriellaw01_No.f t169).bind fun t187 => (if t187 = bt174.2.2 then (if bt181.1 = bt183.1 then (if (bt181.2 == bt183.2) = true then ((oriellaw02_alive.f kj3).bind fun t188 => (some t188)) else (none)) else (none)) else (none))) else (none))) else (none)))))) = some r := H
        have A11 := Aside0.mk A110
        clear A110
        replace H := Option.bind_eq_some_iff.mp H
        obtain ⟨⟨t174, t175, t176⟩, A120, H⟩ := H
        replace H : ((edit_Map.f kj3 a0 a2 l1).bind fun bt181 => ((orielref02_Map.f kj3 a0 a2 l1).bind fun bt183 => ((orielref02_Pairs.f kj3 t167 t174).bind fun t185 => (if t185 = true then ((oriellaw01_Ints.f kj3 t168 t175).bind fun t186 => (if t186 = true then ((oriellaw01_No.f t169).bind fun t187 => (if t187 = t176 then (if bt181.1 = bt183.1 then (if (bt181.2 == bt183.2) = true then ((oriellaw02_alive.f kj3).bind fun t188 => (some t188)) else (none)) else (none)) else (none))) else (none))) else (none))))) = some r := H
        have A12 := Aside0.mk A120
        clear A120
        replace H := Option.bind_eq_some_iff.mp H
        obtain ⟨⟨t181, t182⟩, A130, H⟩ := H
        replace H : ((orielref02_Map.f kj3 a0 a2 l1).bind fun bt183 => ((orielref02_Pairs.f kj3 t167 t174).bind fun t185 => (if t185 = true then ((oriellaw01_Ints.f kj3 t168 t175).bind fun t186 => (if t186 = true then ((oriellaw01_No.f t169).bind fun t187 => (if t187 = t176 then (if t181 = bt183.1 then (if (t182 == bt183.2) = true then ((oriellaw02_alive.f kj3).bind fun t188 => (some t188)) else (none)) else (none)) else (none))) else (none))) else (none)))) = some r := H
        have A13 := Aside0.mk A130
        clear A130
        replace H := Option.bind_eq_some_iff.mp H
        obtain ⟨⟨t183, t184⟩, A140, H⟩ := H
        replace H : ((orielref02_Pairs.f kj3 t167 t174).bind fun t185 => (if t185 = true then ((oriellaw01_Ints.f kj3 t168 t175).bind fun t186 => (if t186 = true then ((oriellaw01_No.f t169).bind fun t187 => (if t187 = t176 then (if t181 = t183 then (if (t182 == t184) = true then ((oriellaw02_alive.f kj3).bind fun t188 => (some t188)) else (none)) else (none)) else (none))) else (none))) else (none))) = some r := H
        have A14 := Aside0.mk A140
        clear A140
        replace H := Option.bind_eq_some_iff.mp H
        obtain ⟨t185, A150, H⟩ := H
        replace H : (if t185 = true then ((oriellaw01_Ints.f kj3 t168 t175).bind fun t186 => (if t186 = true then ((oriellaw01_No.f t169).bind fun t187 => (if t187 = t176 then (if t181 = t183 then (if (t182 == t184) = true then ((oriellaw02_alive.f kj3).bind fun t188 => (some t188)) else (none)) else (none)) else (none))) else (none))) else (none)) = some r := H
        have A15 := Aside0.mk A150
        clear A150
        by_cases c16 : t185 = true
        · subst c16
          have H1 : ((oriellaw01_Ints.f kj3 t168 t175).bind fun t186 => (if t186 = true then ((oriellaw01_No.f t169).bind fun t187 => (if t187 = t176 then (if t181 = t183 then (if (t182 == t184) = true then ((oriellaw02_alive.f kj3).bind fun t188 => (some t188)) else (none)) else (none)) else (none))) else (none))) = some r := by rw [if_pos rfl] at H; exact H
          clear H
          have H := H1
          clear H1
          replace H := Option.bind_eq_some_iff.mp H
          obtain ⟨t186, A170, H⟩ := H
          replace H : (if t186 = true then ((oriellaw01_No.f t169).bind fun t187 => (if t187 = t176 then (if t181 = t183 then (if (t182 == t184) = true then ((oriellaw02_alive.f kj3).bind fun t188 => (some t188)) else (none)) else (none)) else (none))) else (none)) = some r := H
          have A17 := Aside0.mk A170
          clear A170
          by_cases c18 : t186 = true
          · subst c18
            have H1 : ((oriellaw01_No.f t169).bind fun t187 => (if t187 = t176 then (if t181 = t183 then (if (t182 == t184) = true then ((oriellaw02_alive.f kj3).bind fun t188 => (some t188)) else (none)) else (none)) else (none))) = some r := by rw [if_pos rfl] at H; exact H
            clear H
            have H := H1
            clear H1
            replace H := Option.bind_eq_some_iff.mp H
            obtain ⟨t187, A190, H⟩ := H
            replace H : (if t187 = t176 then (if t181 = t183 then (if (t182 == t184) = true then ((oriellaw02_alive.f kj3).bind fun t188 => (some t188)) else (none)) else (none)) else (none)) = some r := H
            have A19 := Aside0.mk A190
            clear A190
            by_cases c20 : t187 = t176
            · rw [if_pos c20] at H
              have c20b0 : (t187 == t176) = true := beq_iff_eq.mpr c20
              have c20b1 : (t187 != t176) = false := bne_eq_false_iff_eq.mpr c20
              clear c20
              by_cases c21 : t181 = t183
              · rw [if_pos c21] at H
                have c21b0 : (t181 == t183) = true := beq_iff_eq.mpr c21
                have c21b1 : (t181 != t183) = false := bne_eq_false_iff_eq.mpr c21
                clear c21
                by_cases c22 : (t182 == t184) = true
                · rw [if_pos c22] at H
                  have c22b0 : (t182 == t184) = true := c22
                  (try (have c22b1 : decide (t182 = t184) = true := by simpa using c22))
                  (try (have c22b2 : (t182 == t184) = true := by simpa using c22))
                  clear c22
                  replace H := Option.bind_eq_some_iff.mp H
                  obtain ⟨t188, A230, H⟩ := H
                  replace H : (some t188) = some r := H
                  have A23 := Aside0.mk A230
                  clear A230
                  obtain rfl := Option.some.inj H
                  go_wp2_with (first | ((with_reducible refine gate_callee (f := 11) rfl ?_); refine goesL_ (some 28) rfl rfl Try.func11 (by kernel_rfl) rfl #[.int .i64 a0, .slice A1 l1.length c1] rfl (by (try simp only [List.map_toArray, List.map_cons, List.map_nil]); first | done | rfl | (simp only [List.length_drop, List.length_take]; rfl)) ?_; (with_reducible refine (edit_Kept.calls kj3 a0 _ _ l1 t167 t168 t169 _ ?side1 ?side2 A11.out).mono ?_); (case side1 => repeat (first | exact (Kd.C_below HR1.out HB.out) | (with_reducible refine Kd.C_alloc ?_ _) | (with_reducible refine Kd.C_drewN ?_ _) | (with_reducible refine Kd.C_drew ?_))); (case side2 => exact HC1.out); rintro e w24 ⟨v170, v172, rfl, ho0, ho1, hb⟩; refine ⟨_, rfl, ?_⟩; have n0_ := Aside0.mk (Kd.R_lower ho0 (below_size (by repeat (first | (with_reducible first | exact HB.out | apply below_alloc | apply pw_below_drewN | apply below_drew1) | exact HB.out)))); have n1_ := Aside0.mk (Kd.R_lower ho1 (below_size (by repeat (first | (with_reducible first | exact HB.out | apply below_alloc | apply pw_below_drewN | apply below_drew1) | exact HB.out)))); have n2_ := Aside0.mk (below_step (by repeat (first | (with_reducible first | exact HB.out | apply below_alloc | apply pw_below_drewN | apply below_drew1) | exact HB.out)) hb); clear HB; have HO171 := n0_; have HO173 := n1_; have HB := n2_; clear n0_ n1_ n2_; (try clear hb); (try clear hb2); (try clear hk); (try clear hi); (try clear ho0); (try clear ho1)) | ((with_reducible refine gate_callee (f := 12) rfl ?_); refine goesL_ (some 35) rfl rfl Try.func12 (by kernel_rfl) rfl #[.int .i64 a0, .slice A1 l1.length c1] rfl (by (try simp only [List.map_toArray, List.map_cons, List.map_nil]); first | done | rfl | (simp only [List.length_drop, List.length_take]; rfl)) ?_; (with_reducible refine (orielref02_Kept.calls kj3 a0 _ _ l1 t174 t175 t176 _ ?side1 ?side2 A12.out).mono ?_); (case side1 => repeat (first | exact (Kd.C_below HR1.out HB.out) | (with_reducible refine Kd.C_alloc ?_ _) | (with_reducible refine Kd.C_drewN ?_ _) | (with_reducible refine Kd.C_drew ?_))); (case side2 => exact HC1.out); rintro e w25 ⟨v177, v179, rfl, ho0, ho1, hb⟩; refine ⟨_, rfl, ?_⟩; have n0_ := Aside0.mk (Kd.R_elder' (by (with_reducible repeat (first | apply Kd.R_alloc | apply Kd.R_drewN | apply Kd.R_drew)); exact HO171.out) (Kd.R_base ho0) hb); have n1_ := Aside0.mk (Kd.R_elder' (by (with_reducible repeat (first | apply Kd.R_alloc | apply Kd.R_drewN | apply Kd.R_drew)); exact HO173.out) (Kd.R_base ho1) hb); have n2_ := Aside0.mk (Kd.R_lower (Kd.R_new' ho0 (Kd.R_lt (by (with_reducible repeat (first | apply Kd.R_alloc | apply Kd.R_drewN | apply Kd.R_drew)); exact HO171.out))) (below_size (by repeat (first | (with_reducible first | exact HB.out | apply below_alloc | apply pw_below_drewN | apply below_drew1) | exact HB.out)))); have n3_ := Aside0.mk (Kd.R_lower (Kd.R_new' ho1 (Kd.R_lt (by (with_reducible repeat (first | apply Kd.R_alloc | apply Kd.R_drewN | apply Kd.R_drew)); exact HO173.out))) (below_size (by repeat (first | (with_reducible first | exact HB.out | apply below_alloc | apply pw_below_drewN | apply below_drew1) | exact HB.out)))); have n4_ := Aside0.mk (below_step (by repeat (first | (with_reducible first | exact HB.out | apply below_alloc | apply pw_below_drewN | apply below_drew1) | exact HB.out)) hb); clear HO171; clear HO173; clear HB; have HO171 := n0_; have HO173 := n1_; have HO178 := n2_; have HO180 := n3_; have HB := n4_; clear n0_ n1_ n2_ n3_ n4_; (try clear hb); (try clear hb2); (try clear hk); (try clear hi); (try clear ho0); (try clear ho1)) | ((with_reducible refine gate_callee (f := 13) rfl ?_); refine goesL_ (some 43) rfl rfl Try.func13 (by kernel_rfl) rfl #[.int .i64 a0, .int .i64 a2, .slice A1 l1.length c1] rfl (by (try simp only [List.map_toArray, List.map_cons, List.map_nil]); first | done | rfl | (simp only [List.length_drop, List.length_take]; rfl)) ?_; (with_reducible refine (edit_Map.calls kj3 a0 a2 _ _ l1 t181 t182 _ ?side1 ?side2 A13.out).mono ?_); (case side1 => repeat (first | exact (Kd.C_below HR1.out HB.out) | (with_reducible refine Kd.C_alloc ?_ _) | (with_reducible refine Kd.C_drewN ?_ _) | (with_reducible refine Kd.C_drew ?_))); (case side2 => exact HC1.out); rintro e w26 ⟨rfl, hb⟩; refine ⟨_, rfl, ?_⟩; have n0_ := Aside0.mk (Kd.R_below (by (with_reducible repeat (first | apply Kd.R_alloc | apply Kd.R_drewN | apply Kd.R_drew)); exact HO171.out) hb); have n1_ := Aside0.mk (Kd.R_below (by (with_reducible repeat (first | apply Kd.R_alloc | apply Kd.R_drewN | apply Kd.R_drew)); exact HO173.out) hb); have n2_ := Aside0.mk (Kd.R_below (by (with_reducible repeat (first | apply Kd.R_alloc | apply Kd.R_drewN | apply Kd.R_drew)); exact HO178.out) hb); have n3_ := Aside0.mk (Kd.R_below (by (with_reducible repeat (first | apply Kd.R_alloc | apply Kd.R_drewN | apply Kd.R_drew)); exact HO180.out) hb); have n4_ := Aside0.mk (below_step (by repeat (first | (with_reducible first | exact HB.out | apply below_alloc | apply pw_below_drewN | apply below_drew1) | exact HB.out)) hb); clear HO171; clear HO173; clear HO178; clear HO180; clear HB; have HO171 := n0_; have HO173 := n1_; have HO178 := n2_; have HO180 := n3_; have HB := n4_; clear n0_ n1_ n2_ n3_ n4_; (try clear hb); (try clear hb2); (try clear hk); (try clear hi)) | ((with_reducible refine gate_callee (f := 14) rfl ?_); refine goesL_ (some 50) rfl rfl Try.func14 (by kernel_rfl) rfl #[.int .i64 a0, .int .i64 a2, .slice A1 l1.length c1] rfl (by (try simp only [List.map_toArray, List.map_cons, List.map_nil]); first | done | rfl | (simp only [List.length_drop, List.length_take]; rfl)) ?_; (with_reducible refine (orielref02_Map.calls kj3 a0 a2 _ _ l1 t183 t184 _ ?side1 ?side2 A14.out).mono ?_); (case side1 => repeat (first | exact (Kd.C_below HR1.out HB.out) | (with_reducible refine Kd.C_alloc ?_ _) | (with_reducible refine Kd.C_drewN ?_ _) | (with_reducible refine Kd.C_drew ?_))); (case side2 => exact HC1.out); rintro e w' ⟨rfl, ⟨nd, rfl⟩⟩; refine ⟨_, rfl, ?_⟩; obtain ⟨Ao27, co27, eo27⟩ := Kd.R_slice HO171.out; subst eo27; obtain ⟨Ao28, co28, eo28⟩ := Kd.R_slice HO178.out; subst eo28) | ((with_reducible refine gate_callee (f := 15) rfl ?_); refine goesL_ (some 55) rfl rfl Try.func15 (by kernel_rfl) rfl #[.slice Ao27 t167.length co27, .slice Ao28 t174.length co28] rfl (by (try simp only [List.map_toArray, List.map_cons, List.map_nil]); first | done | rfl | (simp only [List.length_drop, List.length_take]; rfl)) ?_; (with_reducible refine (orielref02_Pairs.calls kj3 _ _ t167 _ _ t174 true _ ?side1 ?side2 ?side3 ?side4 A15.out).mono ?_); (case side1 => repeat (first | exact (Kd.R_reads' HO171.out).2.2 | (with_reducible refine Kd.C_alloc ?_ _) | (with_reducible refine Kd.C_drewN ?_ _) | (with_reducible refine Kd.C_drew ?_))); (case side2 => exact (Kd.R_reads' HO171.out).2.1); (case side3 => repeat (first | exact (Kd.R_reads' HO178.out).2.2 | (with_reducible refine Kd.C_alloc ?_ _) | (with_reducible refine Kd.C_drewN ?_ _) | (with_reducible refine Kd.C_drew ?_))); (case side4 => exact (Kd.R_reads' HO178.out).2.1); rintro e w' ⟨rfl, ⟨nd, rfl⟩⟩; refine ⟨_, rfl, ?_⟩; obtain ⟨Ao29, co29, eo29⟩ := Kd.R_slice HO173.out; subst eo29; obtain ⟨Ao30, co30, eo30⟩ := Kd.R_slice HO180.out; subst eo30) | (go_at_call 16; (with_reducible refine (oriellaw01_Ints.calls kj3 _ _ t168 _ _ t175 true _ ?side1 ?side2 ?side3 ?side4 A17.out).mono ?_); (case side1 => repeat (first | exact (Kd.R_reads' HO173.out).2.2 | (with_reducible refine Kd.C_alloc ?_ _) | (with_reducible refine Kd.C_drewN ?_ _) | (with_reducible refine Kd.C_drew ?_))); (case side2 => exact (Kd.R_reads' HO173.out).2.1); (case side3 => repeat (first | exact (Kd.R_reads' HO180.out).2.2 | (with_reducible refine Kd.C_alloc ?_ _) | (with_reducible refine Kd.C_drewN ?_ _) | (with_reducible refine Kd.C_drew ?_))); (case side4 => exact (Kd.R_reads' HO180.out).2.1); rintro e w' ⟨rfl, ⟨nd, rfl⟩⟩) | (go_at_call 17; (with_reducible refine (oriellaw01_No.calls t169 t187 _ A19.out).mono ?_); rintro e w' ⟨rfl, ⟨nd, rfl⟩⟩) | (go_at_call 10; (with_reducible refine (oriellaw02_alive.calls kj3  t188 _ A23.out).mono ?_); rintro e w31 ⟨rfl, hb⟩; have n0_ := Aside0.mk (Kd.R_below (by (with_reducible repeat (first | apply Kd.R_alloc | apply Kd.R_drewN | apply Kd.R_drew)); exact HO171.out) hb); have n1_ := Aside0.mk (Kd.R_below (by (with_reducible repeat (first | apply Kd.R_alloc | apply Kd.R_drewN | apply Kd.R_drew)); exact HO173.out) hb); have n2_ := Aside0.mk (Kd.R_below (by (with_reducible repeat (first | apply Kd.R_alloc | apply Kd.R_drewN | apply Kd.R_drew)); exact HO178.out) hb); have n3_ := Aside0.mk (Kd.R_below (by (with_reducible repeat (first | apply Kd.R_alloc | apply Kd.R_drewN | apply Kd.R_drew)); exact HO180.out) hb); have n4_ := Aside0.mk (below_step (by repeat (first | (with_reducible first | exact HB.out | apply below_alloc | apply pw_below_drewN | apply below_drew1) | exact HB.out)) hb); clear HO171; clear HO173; clear HO178; clear HO180; clear HB; have HO171 := n0_; have HO173 := n1_; have HO178 := n2_; have HO180 := n3_; have HB := n4_; clear n0_ n1_ n2_ n3_ n4_; (try clear hb); (try clear hb2); (try clear hk); (try clear hi)))
                  go_ret
                  exact ⟨by first | rfl | (simp [errW_none, errW_some] <;> rfl) | (simp [*, errW_none, errW_some] <;> rfl), by repeat (first | (with_reducible first | exact HB.out | apply below_alloc | apply pw_below_drewN | apply below_drew1) | exact HB.out)⟩
                · rw [if_neg c22] at H
                  exact absurd H (by simp)
              · rw [if_neg c21] at H
                exact absurd H (by simp)
            · rw [if_neg c20] at H
              exact absurd H (by simp)
          · replace c18 := Bool.eq_false_iff.mpr c18
            subst c18
            have H1 : (none) = some r := by rw [if_neg (show ¬ (false = true) by decide)] at H; exact H
            clear H
            have H := H1
            clear H1
            exact absurd H (by simp)
        · replace c16 := Bool.eq_false_iff.mpr c16
          subst c16
          have H1 : (none) = some r := by rw [if_neg (show ¬ (false = true) by decide)] at H; exact H
          clear H
          have H := H1
          clear H1
          exact absurd H (by simp)

end Go.Proofs.Ytmgeheomokjimaa.PAll
