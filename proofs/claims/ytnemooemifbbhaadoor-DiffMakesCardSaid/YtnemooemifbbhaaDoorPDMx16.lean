-- Written by ownprint.py, a program of this session (out of the kit's print, with contracts of the session's own).
import Derived.Test.YtnemooemifbbhaaDoorPDMx0
import Derived.Test.YtnemooemifbbhaaDoorPDMx3
import Derived.Test.YtnemooemifbbhaaDoorPDMx5
import Derived.Test.YtnemooemifbbhaaDoorPDMx6
import Derived.Test.YtnemooemifbbhaaDoorPDMx7
import Derived.Test.YtnemooemifbbhaaDoorPDMx8
import Derived.Test.YtnemooemifbbhaaDoorPDMx9
import Derived.Test.YtnemooemifbbhaaDoorPDMx10
import Derived.Test.YtnemooemifbbhaaDoorPDMx11
import Derived.Test.YtnemooemifbbhaaDoorPDMx13
import Derived.Test.YtnemooemifbbhaaDoorPDMx15
namespace Go.Proofs.YtnemooemifbbhaaDoor.PDM
open Go.RowKit Go.Proofs.YtnemooemifbbhaaDoorW.PrintWords Go.Proofs.YtnemooemifbbhaaDoorW.PrintLast Go.Proofs.YtnemooemifbbhaaDoorW.PrintMore
attribute [local go_sem] max2_int min2_int max_two min_two max_three min_three max_four min_four   -- for this text's walks alone
set_option linter.unusedVariables false
set_option linter.unusedSimpArgs false

/-! ### oriellaw27_DiffMakes: function 3 -/
def oriellaw27_DiffMakes.j0 : Nat → ByteArray → ByteArray → Bool → Option (Bool)
  | 0, _, _, _ => none
  | k + 1, x0, x1, x14 => if x14 = true then ((oriellaw27_alive.f k).bind fun t216 => (some t216)) else ((diff_Lines.f k x0).bind fun t217 => ((diff_Lines.f k x1).bind fun t220 => ((orielref27_Lines.f k x0).bind fun t223 => ((orielref04_Texts.f k t217 t223).bind fun t226 => (if t226 = true then ((orielref27_Lines.f k x0).bind fun t227 => ((orielref27_Lines.f k x1).bind fun t230 => ((diff_Common.f t227 t230).bind fun t233 => ((orielref27_Lines.f k x0).bind fun t236 => ((orielref27_Lines.f k x1).bind fun t239 => ((orielref27_Common.f k t236 t239).bind fun t242 => ((orielref12_Pairs.f k t233 t242).bind fun t245 => (if t245 = true then ((orielref27_Lines.f k x1).bind fun t246 => ((orielref04_Texts.f k t220 t246).bind fun t249 => (if t249 = true then ((diff_Edits.f k x0 x1).bind fun t250 => ((orielref27_Edits.f k x0 x1).bind fun t253 => ((orielref02_Same.f k t250 t253).bind fun t256 => (if t256 = true then ((oriellaw27_alive.f k).bind fun t257 => (some t257)) else (none))))) else (none)))) else (none))))))))) else (none))))))
def oriellaw27_DiffMakes.f (k : Nat) (a0 : ByteArray) (a1 : ByteArray) : Option (Bool) := (oriellaw27_few.f a0).bind fun t214 => (if t214 = true then ((oriellaw27_few.f a1).bind fun t215 => (oriellaw27_DiffMakes.j0 k a0 a1 (!t215))) else (oriellaw27_DiffMakes.j0 k a0 a1 true))
theorem oriellaw27_DiffMakes.mono_l : ∀ k, (∀ y0 y1 y2, LeO (oriellaw27_DiffMakes.j0 k y0 y1 y2) (oriellaw27_DiffMakes.j0 (k + 1) y0 y1 y2))
  | 0 => fun _ _ _ r h => by simp [oriellaw27_DiffMakes.j0] at h
  | k + 1 => by
    have ih0 := oriellaw27_DiffMakes.mono_l k
    · intro y0 y1 y2
      unfold oriellaw27_DiffMakes.j0
      repeat' first
      | (with_reducible exact ih0 _ _ _)
      | (with_reducible exact diff_Edits.mono _ _ _)
      | (with_reducible exact diff_Lines.mono _ _)
      | (with_reducible exact oriellaw27_alive.mono _)
      | (with_reducible exact orielref02_Same.mono _ _ _)
      | (with_reducible exact orielref04_Texts.mono _ _ _)
      | (with_reducible exact orielref12_Pairs.mono _ _ _)
      | (with_reducible exact orielref27_Common.mono _ _ _)
      | (with_reducible exact orielref27_Edits.mono _ _ _)
      | (with_reducible exact orielref27_Lines.mono _ _)
      | (with_reducible exact LeO.refl _)
      | (with_reducible exact LeO.none _)
      | (with_reducible refine LeO.ite ?_ ?_)
      | (with_reducible refine LeO.bind ?_ (fun _ => ?_))
      | exact ih0 _ _ _
      | exact diff_Edits.mono _ _ _
      | exact diff_Lines.mono _ _
      | exact oriellaw27_alive.mono _
      | exact orielref02_Same.mono _ _ _
      | exact orielref04_Texts.mono _ _ _
      | exact orielref12_Pairs.mono _ _ _
      | exact orielref27_Common.mono _ _ _
      | exact orielref27_Edits.mono _ _ _
      | exact orielref27_Lines.mono _ _
      | exact LeO.none _
      | refine LeO.ite ?_ ?_
      | refine LeO.bind ?_ (fun _ => ?_)
theorem oriellaw27_DiffMakes.mono : ∀ a0 a1 k, LeO (oriellaw27_DiffMakes.f k a0 a1) (oriellaw27_DiffMakes.f (k + 1) a0 a1) := by
  intro a0 a1 k
  have ih0 := oriellaw27_DiffMakes.mono_l k
  unfold oriellaw27_DiffMakes.f
  repeat' first
      | (with_reducible exact ih0 _ _ _)
      | (with_reducible exact diff_Edits.mono _ _ _)
      | (with_reducible exact diff_Lines.mono _ _)
      | (with_reducible exact oriellaw27_alive.mono _)
      | (with_reducible exact orielref02_Same.mono _ _ _)
      | (with_reducible exact orielref04_Texts.mono _ _ _)
      | (with_reducible exact orielref12_Pairs.mono _ _ _)
      | (with_reducible exact orielref27_Common.mono _ _ _)
      | (with_reducible exact orielref27_Edits.mono _ _ _)
      | (with_reducible exact orielref27_Lines.mono _ _)
      | (with_reducible exact LeO.refl _)
      | (with_reducible exact LeO.none _)
      | (with_reducible refine LeO.ite ?_ ?_)
      | (with_reducible refine LeO.bind ?_ (fun _ => ?_))
      | exact ih0 _ _ _
      | exact diff_Edits.mono _ _ _
      | exact diff_Lines.mono _ _
      | exact oriellaw27_alive.mono _
      | exact orielref02_Same.mono _ _ _
      | exact orielref04_Texts.mono _ _ _
      | exact orielref12_Pairs.mono _ _ _
      | exact orielref27_Common.mono _ _ _
      | exact orielref27_Edits.mono _ _ _
      | exact orielref27_Lines.mono _ _
      | exact LeO.none _
      | refine LeO.ite ?_ ?_
      | refine LeO.bind ?_ (fun _ => ?_)
set_option maxHeartbeats 8000000 in
set_option maxRecDepth 100000 in
theorem oriellaw27_DiffMakes.calls (k : Nat) (a0 : ByteArray) (a1 : ByteArray) (r : Bool) (w : World) (h : oriellaw27_DiffMakes.f k a0 a1 = some r) :
    Calls Tryd.prog 3 #[.string a0, .string a1] w fun e w' => e = .returned (.bool r) ∧ Below w.heap.size w w' := by
  have HB := Aside0.mk (Below.refl w.heap.size w)
  have H : ((oriellaw27_few.f a0).bind fun t214 => (if t214 = true then ((oriellaw27_few.f a1).bind fun t215 => (oriellaw27_DiffMakes.j0 k a0 a1 (!t215))) else (oriellaw27_DiffMakes.j0 k a0 a1 true))) = some r := h
  clear h
  have HC3 := Aside0.mk H
  clear H
  go_enter Tryd.func3, Tryd.ntmps3
  go_upto_region 1 with (fail)
  go_cut [14] (fun v14 wc => ∃ (kq : Nat) (x14_2 : Bool), v14 = .bool x14_2 ∧ Aside0 (oriellaw27_DiffMakes.j0 kq a0 a1 x14_2 = some r) ∧ Aside0 (kq ≤ k) ∧ Aside0 (Below w.heap.size w wc))
  case first =>
    have H := HC3.out
    clear HC3
    replace H := Option.bind_eq_some_iff.mp H
    obtain ⟨t214, A40, H⟩ := H
    replace H : (if t214 = true then ((oriellaw27_few.f a1).bind fun t215 => (oriellaw27_DiffMakes.j0 k a0 a1 (!t215))) else (oriellaw27_DiffMakes.j0 k a0 a1 true)) = some r := H
    have A4 := Aside0.mk A40
    clear A40
    by_cases c5 : t214 = true
    · subst c5
      have H1 : ((oriellaw27_few.f a1).bind fun t215 => (oriellaw27_DiffMakes.j0 k a0 a1 (!t215))) = some r := by rw [if_pos rfl] at H; exact H
      clear H
      have H := H1
      clear H1
      replace H := Option.bind_eq_some_iff.mp H
      obtain ⟨t215, A60, H⟩ := H
      replace H : (oriellaw27_DiffMakes.j0 k a0 a1 (!t215)) = some r := H
      have A6 := Aside0.mk A60
      clear A60
      have H' := Aside0.mk H
      clear H
      go_wp2_with (first | ((with_reducible refine gate_callee (f := 8) rfl ?_); refine goesL_ (some 8) rfl rfl Tryd.func8 (by kernel_rfl) rfl #[.string a0] rfl (by (try simp only [List.map_toArray, List.map_cons, List.map_nil]); first | done | rfl | (simp only [List.length_drop, List.length_take]; rfl)) ?_; (with_reducible refine (oriellaw27_few.calls a0 true _ A4.out).mono ?_); rintro e w' ⟨rfl, ⟨nd, rfl⟩⟩; refine ⟨_, rfl, ?_⟩) | (go_at_call 8; (with_reducible refine (oriellaw27_few.calls a1 t215 _ A6.out).mono ?_); rintro e w' ⟨rfl, ⟨nd, rfl⟩⟩))
      go_meet
      case rel => exact ⟨_, (!t215), (by first | rfl | (simp; done) | (simp [*]; done)), H', ⟨by first | omega | exact Nat.le_refl _⟩, ⟨by repeat (first | (with_reducible first | exact HB.out | apply below_alloc | apply pw_below_drewN | apply below_drew1) | exact HB.out)⟩⟩
    · replace c5 := Bool.eq_false_iff.mpr c5
      subst c5
      have H1 : (oriellaw27_DiffMakes.j0 k a0 a1 true) = some r := by rw [if_neg (show ¬ (false = true) by decide)] at H; exact H
      clear H
      have H := H1
      clear H1
      have H' := Aside0.mk H
      clear H
      go_wp2_with (first | ((with_reducible refine gate_callee (f := 8) rfl ?_); refine goesL_ (some 8) rfl rfl Tryd.func8 (by kernel_rfl) rfl #[.string a0] rfl (by (try simp only [List.map_toArray, List.map_cons, List.map_nil]); first | done | rfl | (simp only [List.length_drop, List.length_take]; rfl)) ?_; (with_reducible refine (oriellaw27_few.calls a0 false _ A4.out).mono ?_); rintro e w' ⟨rfl, ⟨nd, rfl⟩⟩; refine ⟨_, rfl, ?_⟩))
      go_meet
      case rel => exact ⟨_, (true), (by first | rfl | (simp; done) | (simp [*]; done)), H', ⟨by first | omega | exact Nat.le_refl _⟩, ⟨by repeat (first | (with_reducible first | exact HB.out | apply below_alloc | apply pw_below_drewN | apply below_drew1) | exact HB.out)⟩⟩
  case rest =>
    clear HC3
    try clear p2
    try clear c3
    try clear c5
    obtain ⟨kq, x14_2, rfl, HA, HJ2, HB⟩ := hcut
    cases kq with
    | zero => exact absurd HA.out (by simp [oriellaw27_DiffMakes.j0])
    | succ kj2 =>
      have H := HA.out
      clear HA
      simp only [oriellaw27_DiffMakes.j0] at H
      by_cases c7 : x14_2 = true
      · subst c7
        have H1 : ((oriellaw27_alive.f kj2).bind fun t216 => (some t216)) = some r := by rw [if_pos rfl] at H; exact H
        clear H
        have H := H1
        clear H1
        replace H := Option.bind_eq_some_iff.mp H
        obtain ⟨t216, A80, H⟩ := H
        replace H : (some t216) = some r := H
        have A8 := Aside0.mk A80
        clear A80
        obtain rfl := Option.some.inj H
        go_wp2_with (first | ((with_reducible refine gate_callee (f := 9) rfl ?_); refine goesL_ (some 15) rfl rfl Tryd.func9 (by kernel_rfl) rfl #[] rfl (by (try simp only [List.map_toArray, List.map_cons, List.map_nil]); first | done | rfl | (simp only [List.length_drop, List.length_take]; rfl)) ?_; (with_reducible refine (oriellaw27_alive.calls kj2  t216 _ A8.out).mono ?_); rintro e w9 ⟨rfl, hb⟩; refine ⟨_, rfl, ?_⟩; have n0_ := Aside0.mk (below_step (by repeat (first | (with_reducible first | exact HB.out | apply below_alloc | apply pw_below_drewN | apply below_drew1) | exact HB.out)) hb); clear HB; have HB := n0_; clear n0_; (try clear hb); (try clear hb2); (try clear hk); (try clear hi)))
        go_ret
        exact ⟨by first | rfl | (simp [errW_none, errW_some] <;> rfl) | (simp [*, errW_none, errW_some] <;> rfl), by repeat (first | (with_reducible first | exact HB.out | apply below_alloc | apply pw_below_drewN | apply below_drew1) | exact HB.out)⟩
      · replace c7 := Bool.eq_false_iff.mpr c7
        subst c7
        have H1 : ((diff_Lines.f kj2 a0).bind fun t217 => ((diff_Lines.f kj2 a1).bind fun t220 => ((orielref27_Lines.f kj2 a0).bind fun t223 => ((orielref04_Texts.f kj2 t217 t223).bind fun t226 => (if t226 = true then ((orielref27_Lines.f kj2 a0).bind fun t227 => ((orielref27_Lines.f kj2 a1).bind fun t230 => ((diff_Common.f t227 t230).bind fun t233 => ((orielref27_Lines.f kj2 a0).bind fun t236 => ((orielref27_Lines.f kj2 a1).bind fun t239 => ((orielref27_Common.f kj2 t236 t239).bind fun t242 => ((orielref12_Pairs.f kj2 t233 t242).bind fun t245 => (if t245 = true then ((orielref27_Lines.f kj2 a1).bind fun t246 => ((orielref04_Texts.f kj2 t220 t246).bind fun t249 => (if t249 = true then ((diff_Edits.f kj2 a0 a1).bind fun t250 => ((orielref27_Edits.f kj2 a0 a1).bind fun t253 => ((orielref02_Same.f kj2 t250 t253).bind fun t256 => (if t256 = true then ((oriellaw27_alive.f kj2).bind fun t257 => (some t257)) else (none))))) else (none)))) else (none))))))))) else (none)))))) = some r := by rw [if_neg (show ¬ (false = true) by decide)] at H; exact H
        clear H
        have H := H1
        clear H1
        replace H := Option.bind_eq_some_iff.mp H
        obtain ⟨t217, A100, H⟩ := H
        replace H : ((diff_Lines.f kj2 a1).bind fun t220 => ((orielref27_Lines.f kj2 a0).bind fun t223 => ((orielref04_Texts.f kj2 t217 t223).bind fun t226 => (if t226 = true then ((orielref27_Lines.f kj2 a0).bind fun t227 => ((orielref27_Lines.f kj2 a1).bind fun t230 => ((diff_Common.f t227 t230).bind fun t233 => ((orielref27_Lines.f kj2 a0).bind fun t236 => ((orielref27_Lines.f kj2 a1).bind fun t239 => ((orielref27_Common.f kj2 t236 t239).bind fun t242 => ((orielref12_Pairs.f kj2 t233 t242).bind fun t245 => (if t245 = true then ((orielref27_Lines.f kj2 a1).bind fun t246 => ((orielref04_Texts.f kj2 t220 t246).bind fun t249 => (if t249 = true then ((diff_Edits.f kj2 a0 a1).bind fun t250 => ((orielref27_Edits.f kj2 a0 a1).bind fun t253 => ((orielref02_Same.f kj2 t250 t253).bind fun t256 => (if t256 = true then ((oriellaw27_alive.f kj2).bind fun t257 => (some t257)) else (none))))) else (none)))) else (none))))))))) else (none))))) = some r := H
        have A10 := Aside0.mk A100
        clear A100
        replace H := Option.bind_eq_some_iff.mp H
        obtain ⟨t220, A110, H⟩ := H
        replace H : ((orielref27_Lines.f kj2 a0).bind fun t223 => ((orielref04_Texts.f kj2 t217 t223).bind fun t226 => (if t226 = true then ((orielref27_Lines.f kj2 a0).bind fun t227 => ((orielref27_Lines.f kj2 a1).bind fun t230 => ((diff_Common.f t227 t230).bind fun t233 => ((orielref27_Lines.f kj2 a0).bind fun t236 => ((orielref27_Lines.f kj2 a1).bind fun t239 => ((orielref27_Common.f kj2 t236 t239).bind fun t242 => ((orielref12_Pairs.f kj2 t233 t242).bind fun t245 => (if t245 = true then ((orielref27_Lines.f kj2 a1).bind fun t246 => ((orielref04_Texts.f kj2 t220 t246).bind fun t249 => (if t249 = true then ((diff_Edits.f kj2 a0 a1).bind fun t250 => ((orielref27_Edits.f kj2 a0 a1).bind fun t253 => ((orielref02_Same.f kj2 t250 t253).bind fun t256 => (if t256 = true then ((oriellaw27_alive.f kj2).bind fun t257 => (some t257)) else (none))))) else (none)))) else (none))))))))) else (none)))) = some r := H
        have A11 := Aside0.mk A110
        clear A110
        replace H := Option.bind_eq_some_iff.mp H
        obtain ⟨t223, A120, H⟩ := H
        replace H : ((orielref04_Texts.f kj2 t217 t223).bind fun t226 => (if t226 = true then ((orielref27_Lines.f kj2 a0).bind fun t227 => ((orielref27_Lines.f kj2 a1).bind fun t230 => ((diff_Common.f t227 t230).bind fun t233 => ((orielref27_Lines.f kj2 a0).bind fun t236 => ((orielref27_Lines.f kj2 a1).bind fun t239 => ((orielref27_Common.f kj2 t236 t239).bind fun t242 => ((orielref12_Pairs.f kj2 t233 t242).bind fun t245 => (if t245 = true then ((orielref27_Lines.f kj2 a1).bind fun t246 => ((orielref04_Texts.f kj2 t220 t246).bind fun t249 => (if t249 = true then ((diff_Edits.f kj2 a0 a1).bind fun t250 => ((orielref27_Edits.f kj2 a0 a1).bind fun t253 => ((orielref02_Same.f kj2 t250 t253).bind fun t256 => (if t256 = true then ((oriellaw27_alive.f kj2).bind fun t257 => (some t257)) else (none))))) else (none)))) else (none))))))))) else (none))) = some r := H
        have A12 := Aside0.mk A120
        clear A120
        replace H := Option.bind_eq_some_iff.mp H
        obtain ⟨t226, A130, H⟩ := H
        replace H : (if t226 = true then ((orielref27_Lines.f kj2 a0).bind fun t227 => ((orielref27_Lines.f kj2 a1).bind fun t230 => ((diff_Common.f t227 t230).bind fun t233 => ((orielref27_Lines.f kj2 a0).bind fun t236 => ((orielref27_Lines.f kj2 a1).bind fun t239 => ((orielref27_Common.f kj2 t236 t239).bind fun t242 => ((orielref12_Pairs.f kj2 t233 t242).bind fun t245 => (if t245 = true then ((orielref27_Lines.f kj2 a1).bind fun t246 => ((orielref04_Texts.f kj2 t220 t246).bind fun t249 => (if t249 = true then ((diff_Edits.f kj2 a0 a1).bind fun t250 => ((orielref27_Edits.f kj2 a0 a1).bind fun t253 => ((orielref02_Same.f kj2 t250 t253).bind fun t256 => (if t256 = true then ((oriellaw27_alive.f kj2).bind fun t257 => (some t257)) else (none))))) else (none)))) else (none))))))))) else (none)) = some r := H
        have A13 := Aside0.mk A130
        clear A130
        by_cases c14 : t226 = true
        · subst c14
          have H1 : ((orielref27_Lines.f kj2 a0).bind fun t227 => ((orielref27_Lines.f kj2 a1).bind fun t230 => ((diff_Common.f t227 t230).bind fun t233 => ((orielref27_Lines.f kj2 a0).bind fun t236 => ((orielref27_Lines.f kj2 a1).bind fun t239 => ((orielref27_Common.f kj2 t236 t239).bind fun t242 => ((orielref12_Pairs.f kj2 t233 t242).bind fun t245 => (if t245 = true then ((orielref27_Lines.f kj2 a1).bind fun t246 => ((orielref04_Texts.f kj2 t220 t246).bind fun t249 => (if t249 = true then ((diff_Edits.f kj2 a0 a1).bind fun t250 => ((orielref27_Edits.f kj2 a0 a1).bind fun t253 => ((orielref02_Same.f kj2 t250 t253).bind fun t256 => (if t256 = true then ((oriellaw27_alive.f kj2).bind fun t257 => (some t257)) else (none))))) else (none)))) else (none))))))))) = some r := by rw [if_pos rfl] at H; exact H
          clear H
          have H := H1
          clear H1
          replace H := Option.bind_eq_some_iff.mp H
          obtain ⟨t227, A150, H⟩ := H
          replace H : ((orielref27_Lines.f kj2 a1).bind fun t230 => ((diff_Common.f t227 t230).bind fun t233 => ((orielref27_Lines.f kj2 a0).bind fun t236 => ((orielref27_Lines.f kj2 a1).bind fun t239 => ((orielref27_Common.f kj2 t236 t239).bind fun t242 => ((orielref12_Pairs.f kj2 t233 t242).bind fun t245 => (if t245 = true then ((orielref27_Lines.f kj2 a1).bind fun t246 => ((orielref04_Texts.f kj2 t220 t246).bind fun t249 => (if t249 = true then ((diff_Edits.f kj2 a0 a1).bind fun t250 => ((orielref27_Edits.f kj2 a0 a1).bind fun t253 => ((orielref02_Same.f kj2 t250 t253).bind fun t256 => (if t256 = true then ((oriellaw27_alive.f kj2).bind fun t257 => (some t257)) else (none))))) else (none)))) else (none)))))))) = some r := H
          have A15 := Aside0.mk A150
          clear A150
          replace H := Option.bind_eq_some_iff.mp H
          obtain ⟨t230, A160, H⟩ := H
          replace H : ((diff_Common.f t227 t230).bind fun t233 => ((orielref27_Lines.f kj2 a0).bind fun t236 => ((orielref27_Lines.f kj2 a1).bind fun t239 => ((orielref27_Common.f kj2 t236 t239).bind fun t242 => ((orielref12_Pairs.f kj2 t233 t242).bind fun t245 => (if t245 = true then ((orielref27_Lines.f kj2 a1).bind fun t246 => ((orielref04_Texts.f kj2 t220 t246).bind fun t249 => (if t249 = true then ((diff_Edits.f kj2 a0 a1).bind fun t250 => ((orielref27_Edits.f kj2 a0 a1).bind fun t253 => ((orielref02_Same.f kj2 t250 t253).bind fun t256 => (if t256 = true then ((oriellaw27_alive.f kj2).bind fun t257 => (some t257)) else (none))))) else (none)))) else (none))))))) = some r := H
          have A16 := Aside0.mk A160
          clear A160
          replace H := Option.bind_eq_some_iff.mp H
          obtain ⟨t233, A170, H⟩ := H
          replace H : ((orielref27_Lines.f kj2 a0).bind fun t236 => ((orielref27_Lines.f kj2 a1).bind fun t239 => ((orielref27_Common.f kj2 t236 t239).bind fun t242 => ((orielref12_Pairs.f kj2 t233 t242).bind fun t245 => (if t245 = true then ((orielref27_Lines.f kj2 a1).bind fun t246 => ((orielref04_Texts.f kj2 t220 t246).bind fun t249 => (if t249 = true then ((diff_Edits.f kj2 a0 a1).bind fun t250 => ((orielref27_Edits.f kj2 a0 a1).bind fun t253 => ((orielref02_Same.f kj2 t250 t253).bind fun t256 => (if t256 = true then ((oriellaw27_alive.f kj2).bind fun t257 => (some t257)) else (none))))) else (none)))) else (none)))))) = some r := H
          have A17 := Aside0.mk A170
          clear A170
          replace H := Option.bind_eq_some_iff.mp H
          obtain ⟨t236, A180, H⟩ := H
          replace H : ((orielref27_Lines.f kj2 a1).bind fun t239 => ((orielref27_Common.f kj2 t236 t239).bind fun t242 => ((orielref12_Pairs.f kj2 t233 t242).bind fun t245 => (if t245 = true then ((orielref27_Lines.f kj2 a1).bind fun t246 => ((orielref04_Texts.f kj2 t220 t246).bind fun t249 => (if t249 = true then ((diff_Edits.f kj2 a0 a1).bind fun t250 => ((orielref27_Edits.f kj2 a0 a1).bind fun t253 => ((orielref02_Same.f kj2 t250 t253).bind fun t256 => (if t256 = true then ((oriellaw27_alive.f kj2).bind fun t257 => (some t257)) else (none))))) else (none)))) else (none))))) = some r := H
          have A18 := Aside0.mk A180
          clear A180
          replace H := Option.bind_eq_some_iff.mp H
          obtain ⟨t239, A190, H⟩ := H
          replace H : ((orielref27_Common.f kj2 t236 t239).bind fun t242 => ((orielref12_Pairs.f kj2 t233 t242).bind fun t245 => (if t245 = true then ((orielref27_Lines.f kj2 a1).bind fun t246 => ((orielref04_Texts.f kj2 t220 t246).bind fun t249 => (if t249 = true then ((diff_Edits.f kj2 a0 a1).bind fun t250 => ((orielref27_Edits.f kj2 a0 a1).bind fun t253 => ((orielref02_Same.f kj2 t250 t253).bind fun t256 => (if t256 = true then ((oriellaw27_alive.f kj2).bind fun t257 => (some t257)) else (none))))) else (none)))) else (none)))) = some r := H
          have A19 := Aside0.mk A190
          clear A190
          replace H := Option.bind_eq_some_iff.mp H
          obtain ⟨t242, A200, H⟩ := H
          replace H : ((orielref12_Pairs.f kj2 t233 t242).bind fun t245 => (if t245 = true then ((orielref27_Lines.f kj2 a1).bind fun t246 => ((orielref04_Texts.f kj2 t220 t246).bind fun t249 => (if t249 = true then ((diff_Edits.f kj2 a0 a1).bind fun t250 => ((orielref27_Edits.f kj2 a0 a1).bind fun t253 => ((orielref02_Same.f kj2 t250 t253).bind fun t256 => (if t256 = true then ((oriellaw27_alive.f kj2).bind fun t257 => (some t257)) else (none))))) else (none)))) else (none))) = some r := H
          have A20 := Aside0.mk A200
          clear A200
          replace H := Option.bind_eq_some_iff.mp H
          obtain ⟨t245, A210, H⟩ := H
          replace H : (if t245 = true then ((orielref27_Lines.f kj2 a1).bind fun t246 => ((orielref04_Texts.f kj2 t220 t246).bind fun t249 => (if t249 = true then ((diff_Edits.f kj2 a0 a1).bind fun t250 => ((orielref27_Edits.f kj2 a0 a1).bind fun t253 => ((orielref02_Same.f kj2 t250 t253).bind fun t256 => (if t256 = true then ((oriellaw27_alive.f kj2).bind fun t257 => (some t257)) else (none))))) else (none)))) else (none)) = some r := H
          have A21 := Aside0.mk A210
          clear A210
          by_cases c22 : t245 = true
          · subst c22
            have H1 : ((orielref27_Lines.f kj2 a1).bind fun t246 => ((orielref04_Texts.f kj2 t220 t246).bind fun t249 => (if t249 = true then ((diff_Edits.f kj2 a0 a1).bind fun t250 => ((orielref27_Edits.f kj2 a0 a1).bind fun t253 => ((orielref02_Same.f kj2 t250 t253).bind fun t256 => (if t256 = true then ((oriellaw27_alive.f kj2).bind fun t257 => (some t257)) else (none))))) else (none)))) = some r := by rw [if_pos rfl] at H; exact H
            clear H
            have H := H1
            clear H1
            replace H := Option.bind_eq_some_iff.mp H
            obtain ⟨t246, A230, H⟩ := H
            replace H : ((orielref04_Texts.f kj2 t220 t246).bind fun t249 => (if t249 = true then ((diff_Edits.f kj2 a0 a1).bind fun t250 => ((orielref27_Edits.f kj2 a0 a1).bind fun t253 => ((orielref02_Same.f kj2 t250 t253).bind fun t256 => (if t256 = true then ((oriellaw27_alive.f kj2).bind fun t257 => (some t257)) else (none))))) else (none))) = some r := H
            have A23 := Aside0.mk A230
            clear A230
            replace H := Option.bind_eq_some_iff.mp H
            obtain ⟨t249, A240, H⟩ := H
            replace H : (if t249 = true then ((diff_Edits.f kj2 a0 a1).bind fun t250 => ((orielref27_Edits.f kj2 a0 a1).bind fun t253 => ((orielref02_Same.f kj2 t250 t253).bind fun t256 => (if t256 = true then ((oriellaw27_alive.f kj2).bind fun t257 => (some t257)) else (none))))) else (none)) = some r := H
            have A24 := Aside0.mk A240
            clear A240
            by_cases c25 : t249 = true
            · subst c25
              have H1 : ((diff_Edits.f kj2 a0 a1).bind fun t250 => ((orielref27_Edits.f kj2 a0 a1).bind fun t253 => ((orielref02_Same.f kj2 t250 t253).bind fun t256 => (if t256 = true then ((oriellaw27_alive.f kj2).bind fun t257 => (some t257)) else (none))))) = some r := by rw [if_pos rfl] at H; exact H
              clear H
              have H := H1
              clear H1
              replace H := Option.bind_eq_some_iff.mp H
              obtain ⟨t250, A260, H⟩ := H
              replace H : ((orielref27_Edits.f kj2 a0 a1).bind fun t253 => ((orielref02_Same.f kj2 t250 t253).bind fun t256 => (if t256 = true then ((oriellaw27_alive.f kj2).bind fun t257 => (some t257)) else (none)))) = some r := H
              have A26 := Aside0.mk A260
              clear A260
              replace H := Option.bind_eq_some_iff.mp H
              obtain ⟨t253, A270, H⟩ := H
              replace H : ((orielref02_Same.f kj2 t250 t253).bind fun t256 => (if t256 = true then ((oriellaw27_alive.f kj2).bind fun t257 => (some t257)) else (none))) = some r := H
              have A27 := Aside0.mk A270
              clear A270
              replace H := Option.bind_eq_some_iff.mp H
              obtain ⟨t256, A280, H⟩ := H
              replace H : (if t256 = true then ((oriellaw27_alive.f kj2).bind fun t257 => (some t257)) else (none)) = some r := H
              have A28 := Aside0.mk A280
              clear A280
              by_cases c29 : t256 = true
              · subst c29
                have H1 : ((oriellaw27_alive.f kj2).bind fun t257 => (some t257)) = some r := by rw [if_pos rfl] at H; exact H
                clear H
                have H := H1
                clear H1
                replace H := Option.bind_eq_some_iff.mp H
                obtain ⟨t257, A300, H⟩ := H
                replace H : (some t257) = some r := H
                have A30 := Aside0.mk A300
                clear A300
                obtain rfl := Option.some.inj H
                go_wp2_with (first | ((with_reducible refine gate_callee (f := 10) rfl ?_); refine goesL_ (some 17) rfl rfl Tryd.func10 (by kernel_rfl) rfl #[.string a0] rfl (by (try simp only [List.map_toArray, List.map_cons, List.map_nil]); first | done | rfl | (simp only [List.length_drop, List.length_take]; rfl)) ?_; (with_reducible refine (diff_Lines.calls kj2 a0 t217 _ A10.out).mono ?_); rintro e w31 ⟨v218, rfl, ho0, hb⟩; refine ⟨_, rfl, ?_⟩; have n0_ := Aside0.mk (Kd.R_lower ho0 (below_size (by repeat (first | (with_reducible first | exact HB.out | apply below_alloc | apply pw_below_drewN | apply below_drew1) | exact HB.out)))); have n1_ := Aside0.mk (below_step (by repeat (first | (with_reducible first | exact HB.out | apply below_alloc | apply pw_below_drewN | apply below_drew1) | exact HB.out)) hb); clear HB; have HO219 := n0_; have HB := n1_; clear n0_ n1_; (try clear hb); (try clear hb2); (try clear hk); (try clear hi); (try clear ho0)) | ((with_reducible refine gate_callee (f := 10) rfl ?_); refine goesL_ (some 19) rfl rfl Tryd.func10 (by kernel_rfl) rfl #[.string a1] rfl (by (try simp only [List.map_toArray, List.map_cons, List.map_nil]); first | done | rfl | (simp only [List.length_drop, List.length_take]; rfl)) ?_; (with_reducible refine (diff_Lines.calls kj2 a1 t220 _ A11.out).mono ?_); rintro e w32 ⟨v221, rfl, ho0, hb⟩; refine ⟨_, rfl, ?_⟩; have n0_ := Aside0.mk (Kd.R_elder' (by (with_reducible repeat (first | apply Kd.R_alloc | apply Kd.R_drewN | apply Kd.R_drew)); exact HO219.out) (Kd.R_base ho0) hb); have n1_ := Aside0.mk (Kd.R_lower (Kd.R_new' ho0 (Kd.R_lt (by (with_reducible repeat (first | apply Kd.R_alloc | apply Kd.R_drewN | apply Kd.R_drew)); exact HO219.out))) (below_size (by repeat (first | (with_reducible first | exact HB.out | apply below_alloc | apply pw_below_drewN | apply below_drew1) | exact HB.out)))); have n2_ := Aside0.mk (below_step (by repeat (first | (with_reducible first | exact HB.out | apply below_alloc | apply pw_below_drewN | apply below_drew1) | exact HB.out)) hb); clear HO219; clear HB; have HO219 := n0_; have HO222 := n1_; have HB := n2_; clear n0_ n1_ n2_; (try clear hb); (try clear hb2); (try clear hk); (try clear hi); (try clear ho0)) | ((with_reducible refine gate_callee (f := 12) rfl ?_); refine goesL_ (some 22) rfl rfl Tryd.func12 (by kernel_rfl) rfl #[.string a0] rfl (by (try simp only [List.map_toArray, List.map_cons, List.map_nil]); first | done | rfl | (simp only [List.length_drop, List.length_take]; rfl)) ?_; (with_reducible refine (orielref27_Lines.calls kj2 a0 t223 _ A12.out).mono ?_); rintro e w33 ⟨v224, rfl, ho0, hb⟩; refine ⟨_, rfl, ?_⟩; have n0_ := Aside0.mk (Kd.R_elder' (by (with_reducible repeat (first | apply Kd.R_alloc | apply Kd.R_drewN | apply Kd.R_drew)); exact HO219.out) (Kd.R_base ho0) hb); have n1_ := Aside0.mk (Kd.R_elder' (by (with_reducible repeat (first | apply Kd.R_alloc | apply Kd.R_drewN | apply Kd.R_drew)); exact HO222.out) (Kd.R_base ho0) hb); have n2_ := Aside0.mk (Kd.R_lower (Kd.R_new' (Kd.R_new' ho0 (Kd.R_lt (by (with_reducible repeat (first | apply Kd.R_alloc | apply Kd.R_drewN | apply Kd.R_drew)); exact HO219.out))) (Kd.R_lt (by (with_reducible repeat (first | apply Kd.R_alloc | apply Kd.R_drewN | apply Kd.R_drew)); exact HO222.out))) (below_size (by repeat (first | (with_reducible first | exact HB.out | apply below_alloc | apply pw_below_drewN | apply below_drew1) | exact HB.out)))); have n3_ := Aside0.mk (below_step (by repeat (first | (with_reducible first | exact HB.out | apply below_alloc | apply pw_below_drewN | apply below_drew1) | exact HB.out)) hb); clear HO219; clear HO222; clear HB; have HO219 := n0_; have HO222 := n1_; have HO225 := n2_; have HB := n3_; clear n0_ n1_ n2_ n3_; (try clear hb); (try clear hb2); (try clear hk); (try clear hi); (try clear ho0); obtain ⟨Ao34, co34, eo34⟩ := Kd.R_slice HO219.out; subst eo34; obtain ⟨Ao35, co35, eo35⟩ := Kd.R_slice HO225.out; subst eo35) | ((with_reducible refine gate_callee (f := 11) rfl ?_); refine goesL_ (some 23) rfl rfl Tryd.func11 (by kernel_rfl) rfl #[.slice Ao34 t217.length co34, .slice Ao35 t223.length co35] rfl (by (try simp only [List.map_toArray, List.map_cons, List.map_nil]); first | done | rfl | (simp only [List.length_drop, List.length_take]; rfl)) ?_; (with_reducible refine (orielref04_Texts.calls kj2 _ _ t217 _ _ t223 true _ ?side1 ?side2 ?side3 ?side4 A13.out).mono ?_); (case side1 => repeat (first | exact (Kd.R_reads' HO219.out).2.2 | (with_reducible refine Kd.C_alloc ?_ _) | (with_reducible refine Kd.C_drewN ?_ _) | (with_reducible refine Kd.C_drew ?_))); (case side2 => exact (Kd.R_reads' HO219.out).2.1); (case side3 => repeat (first | exact (Kd.R_reads' HO225.out).2.2 | (with_reducible refine Kd.C_alloc ?_ _) | (with_reducible refine Kd.C_drewN ?_ _) | (with_reducible refine Kd.C_drew ?_))); (case side4 => exact (Kd.R_reads' HO225.out).2.1); rintro e w' ⟨rfl, ⟨nd, rfl⟩⟩; refine ⟨_, rfl, ?_⟩) | (go_at_call 12; (with_reducible refine (orielref27_Lines.calls kj2 a0 t236 _ A18.out).mono ?_); rintro e w41 ⟨v237, rfl, ho0, hb⟩; have n0_ := Aside0.mk (Kd.R_elder' (by (with_reducible repeat (first | apply Kd.R_alloc | apply Kd.R_drewN | apply Kd.R_drew)); exact HO219.out) (Kd.R_base ho0) hb); have n1_ := Aside0.mk (Kd.R_elder' (by (with_reducible repeat (first | apply Kd.R_alloc | apply Kd.R_drewN | apply Kd.R_drew)); exact HO222.out) (Kd.R_base ho0) hb); have n2_ := Aside0.mk (Kd.R_elder' (by (with_reducible repeat (first | apply Kd.R_alloc | apply Kd.R_drewN | apply Kd.R_drew)); exact HO225.out) (Kd.R_base ho0) hb); have n3_ := Aside0.mk (Kd.R_elder' (by (with_reducible repeat (first | apply Kd.R_alloc | apply Kd.R_drewN | apply Kd.R_drew)); exact HO229.out) (Kd.R_base ho0) hb); have n4_ := Aside0.mk (Kd.R_elder' (by (with_reducible repeat (first | apply Kd.R_alloc | apply Kd.R_drewN | apply Kd.R_drew)); exact HO232.out) (Kd.R_base ho0) hb); have n5_ := Aside0.mk (Kd.R_below (by (with_reducible repeat (first | apply Kd.R_alloc | apply Kd.R_drewN | apply Kd.R_drew)); exact HO235.out) hb); have n6_ := Aside0.mk (Kd.R_lower (Kd.R_new' (Kd.R_new' (Kd.R_new' (Kd.R_new' (Kd.R_new' ho0 (Kd.R_lt (by (with_reducible repeat (first | apply Kd.R_alloc | apply Kd.R_drewN | apply Kd.R_drew)); exact HO219.out))) (Kd.R_lt (by (with_reducible repeat (first | apply Kd.R_alloc | apply Kd.R_drewN | apply Kd.R_drew)); exact HO222.out))) (Kd.R_lt (by (with_reducible repeat (first | apply Kd.R_alloc | apply Kd.R_drewN | apply Kd.R_drew)); exact HO225.out))) (Kd.R_lt (by (with_reducible repeat (first | apply Kd.R_alloc | apply Kd.R_drewN | apply Kd.R_drew)); exact HO229.out))) (Kd.R_lt (by (with_reducible repeat (first | apply Kd.R_alloc | apply Kd.R_drewN | apply Kd.R_drew)); exact HO232.out))) (below_size (by repeat (first | (with_reducible first | exact HB.out | apply below_alloc | apply pw_below_drewN | apply below_drew1) | exact HB.out)))); have n7_ := Aside0.mk (below_step (by repeat (first | (with_reducible first | exact HB.out | apply below_alloc | apply pw_below_drewN | apply below_drew1) | exact HB.out)) hb); clear HO219; clear HO222; clear HO225; clear HO229; clear HO232; clear HO235; clear HB; have HO219 := n0_; have HO222 := n1_; have HO225 := n2_; have HO229 := n3_; have HO232 := n4_; have HO235 := n5_; have HO238 := n6_; have HB := n7_; clear n0_ n1_ n2_ n3_ n4_ n5_ n6_ n7_; (try clear hb); (try clear hb2); (try clear hk); (try clear hi); (try clear ho0)) | (go_at_call 12; (with_reducible refine (orielref27_Lines.calls kj2 a0 t227 _ A15.out).mono ?_); rintro e w36 ⟨v228, rfl, ho0, hb⟩; have n0_ := Aside0.mk (Kd.R_elder' (by (with_reducible repeat (first | apply Kd.R_alloc | apply Kd.R_drewN | apply Kd.R_drew)); exact HO219.out) (Kd.R_base ho0) hb); have n1_ := Aside0.mk (Kd.R_elder' (by (with_reducible repeat (first | apply Kd.R_alloc | apply Kd.R_drewN | apply Kd.R_drew)); exact HO222.out) (Kd.R_base ho0) hb); have n2_ := Aside0.mk (Kd.R_elder' (by (with_reducible repeat (first | apply Kd.R_alloc | apply Kd.R_drewN | apply Kd.R_drew)); exact HO225.out) (Kd.R_base ho0) hb); have n3_ := Aside0.mk (Kd.R_lower (Kd.R_new' (Kd.R_new' (Kd.R_new' ho0 (Kd.R_lt (by (with_reducible repeat (first | apply Kd.R_alloc | apply Kd.R_drewN | apply Kd.R_drew)); exact HO219.out))) (Kd.R_lt (by (with_reducible repeat (first | apply Kd.R_alloc | apply Kd.R_drewN | apply Kd.R_drew)); exact HO222.out))) (Kd.R_lt (by (with_reducible repeat (first | apply Kd.R_alloc | apply Kd.R_drewN | apply Kd.R_drew)); exact HO225.out))) (below_size (by repeat (first | (with_reducible first | exact HB.out | apply below_alloc | apply pw_below_drewN | apply below_drew1) | exact HB.out)))); have n4_ := Aside0.mk (below_step (by repeat (first | (with_reducible first | exact HB.out | apply below_alloc | apply pw_below_drewN | apply below_drew1) | exact HB.out)) hb); clear HO219; clear HO222; clear HO225; clear HB; have HO219 := n0_; have HO222 := n1_; have HO225 := n2_; have HO229 := n3_; have HB := n4_; clear n0_ n1_ n2_ n3_ n4_; (try clear hb); (try clear hb2); (try clear hk); (try clear hi); (try clear ho0)) | (go_at_call 12; (with_reducible refine (orielref27_Lines.calls kj2 a1 t246 _ A23.out).mono ?_); rintro e w48 ⟨v247, rfl, ho0, hb⟩; have n0_ := Aside0.mk (Kd.R_elder' (by (with_reducible repeat (first | apply Kd.R_alloc | apply Kd.R_drewN | apply Kd.R_drew)); exact HO219.out) (Kd.R_base ho0) hb); have n1_ := Aside0.mk (Kd.R_elder' (by (with_reducible repeat (first | apply Kd.R_alloc | apply Kd.R_drewN | apply Kd.R_drew)); exact HO222.out) (Kd.R_base ho0) hb); have n2_ := Aside0.mk (Kd.R_elder' (by (with_reducible repeat (first | apply Kd.R_alloc | apply Kd.R_drewN | apply Kd.R_drew)); exact HO225.out) (Kd.R_base ho0) hb); have n3_ := Aside0.mk (Kd.R_elder' (by (with_reducible repeat (first | apply Kd.R_alloc | apply Kd.R_drewN | apply Kd.R_drew)); exact HO229.out) (Kd.R_base ho0) hb); have n4_ := Aside0.mk (Kd.R_elder' (by (with_reducible repeat (first | apply Kd.R_alloc | apply Kd.R_drewN | apply Kd.R_drew)); exact HO232.out) (Kd.R_base ho0) hb); have n5_ := Aside0.mk (Kd.R_below (by (with_reducible repeat (first | apply Kd.R_alloc | apply Kd.R_drewN | apply Kd.R_drew)); exact HO235.out) hb); have n6_ := Aside0.mk (Kd.R_elder' (by (with_reducible repeat (first | apply Kd.R_alloc | apply Kd.R_drewN | apply Kd.R_drew)); exact HO238.out) (Kd.R_base ho0) hb); have n7_ := Aside0.mk (Kd.R_elder' (by (with_reducible repeat (first | apply Kd.R_alloc | apply Kd.R_drewN | apply Kd.R_drew)); exact HO241.out) (Kd.R_base ho0) hb); have n8_ := Aside0.mk (Kd.R_below (by (with_reducible repeat (first | apply Kd.R_alloc | apply Kd.R_drewN | apply Kd.R_drew)); exact HO244.out) hb); have n9_ := Aside0.mk (Kd.R_lower (Kd.R_new' (Kd.R_new' (Kd.R_new' (Kd.R_new' (Kd.R_new' (Kd.R_new' (Kd.R_new' ho0 (Kd.R_lt (by (with_reducible repeat (first | apply Kd.R_alloc | apply Kd.R_drewN | apply Kd.R_drew)); exact HO219.out))) (Kd.R_lt (by (with_reducible repeat (first | apply Kd.R_alloc | apply Kd.R_drewN | apply Kd.R_drew)); exact HO222.out))) (Kd.R_lt (by (with_reducible repeat (first | apply Kd.R_alloc | apply Kd.R_drewN | apply Kd.R_drew)); exact HO225.out))) (Kd.R_lt (by (with_reducible repeat (first | apply Kd.R_alloc | apply Kd.R_drewN | apply Kd.R_drew)); exact HO229.out))) (Kd.R_lt (by (with_reducible repeat (first | apply Kd.R_alloc | apply Kd.R_drewN | apply Kd.R_drew)); exact HO232.out))) (Kd.R_lt (by (with_reducible repeat (first | apply Kd.R_alloc | apply Kd.R_drewN | apply Kd.R_drew)); exact HO238.out))) (Kd.R_lt (by (with_reducible repeat (first | apply Kd.R_alloc | apply Kd.R_drewN | apply Kd.R_drew)); exact HO241.out))) (below_size (by repeat (first | (with_reducible first | exact HB.out | apply below_alloc | apply pw_below_drewN | apply below_drew1) | exact HB.out)))); have n10_ := Aside0.mk (below_step (by repeat (first | (with_reducible first | exact HB.out | apply below_alloc | apply pw_below_drewN | apply below_drew1) | exact HB.out)) hb); clear HO219; clear HO222; clear HO225; clear HO229; clear HO232; clear HO235; clear HO238; clear HO241; clear HO244; clear HB; have HO219 := n0_; have HO222 := n1_; have HO225 := n2_; have HO229 := n3_; have HO232 := n4_; have HO235 := n5_; have HO238 := n6_; have HO241 := n7_; have HO244 := n8_; have HO248 := n9_; have HB := n10_; clear n0_ n1_ n2_ n3_ n4_ n5_ n6_ n7_ n8_ n9_ n10_; (try clear hb); (try clear hb2); (try clear hk); (try clear hi); (try clear ho0); obtain ⟨Ao49, co49, eo49⟩ := Kd.R_slice HO222.out; subst eo49; obtain ⟨Ao50, co50, eo50⟩ := Kd.R_slice HO248.out; subst eo50) | (go_at_call 12; (with_reducible refine (orielref27_Lines.calls kj2 a1 t239 _ A19.out).mono ?_); rintro e w42 ⟨v240, rfl, ho0, hb⟩; have n0_ := Aside0.mk (Kd.R_elder' (by (with_reducible repeat (first | apply Kd.R_alloc | apply Kd.R_drewN | apply Kd.R_drew)); exact HO219.out) (Kd.R_base ho0) hb); have n1_ := Aside0.mk (Kd.R_elder' (by (with_reducible repeat (first | apply Kd.R_alloc | apply Kd.R_drewN | apply Kd.R_drew)); exact HO222.out) (Kd.R_base ho0) hb); have n2_ := Aside0.mk (Kd.R_elder' (by (with_reducible repeat (first | apply Kd.R_alloc | apply Kd.R_drewN | apply Kd.R_drew)); exact HO225.out) (Kd.R_base ho0) hb); have n3_ := Aside0.mk (Kd.R_elder' (by (with_reducible repeat (first | apply Kd.R_alloc | apply Kd.R_drewN | apply Kd.R_drew)); exact HO229.out) (Kd.R_base ho0) hb); have n4_ := Aside0.mk (Kd.R_elder' (by (with_reducible repeat (first | apply Kd.R_alloc | apply Kd.R_drewN | apply Kd.R_drew)); exact HO232.out) (Kd.R_base ho0) hb); have n5_ := Aside0.mk (Kd.R_below (by (with_reducible repeat (first | apply Kd.R_alloc | apply Kd.R_drewN | apply Kd.R_drew)); exact HO235.out) hb); have n6_ := Aside0.mk (Kd.R_elder' (by (with_reducible repeat (first | apply Kd.R_alloc | apply Kd.R_drewN | apply Kd.R_drew)); exact HO238.out) (Kd.R_base ho0) hb); have n7_ := Aside0.mk (Kd.R_lower (Kd.R_new' (Kd.R_new' (Kd.R_new' (Kd.R_new' (Kd.R_new' (Kd.R_new' ho0 (Kd.R_lt (by (with_reducible repeat (first | apply Kd.R_alloc | apply Kd.R_drewN | apply Kd.R_drew)); exact HO219.out))) (Kd.R_lt (by (with_reducible repeat (first | apply Kd.R_alloc | apply Kd.R_drewN | apply Kd.R_drew)); exact HO222.out))) (Kd.R_lt (by (with_reducible repeat (first | apply Kd.R_alloc | apply Kd.R_drewN | apply Kd.R_drew)); exact HO225.out))) (Kd.R_lt (by (with_reducible repeat (first | apply Kd.R_alloc | apply Kd.R_drewN | apply Kd.R_drew)); exact HO229.out))) (Kd.R_lt (by (with_reducible repeat (first | apply Kd.R_alloc | apply Kd.R_drewN | apply Kd.R_drew)); exact HO232.out))) (Kd.R_lt (by (with_reducible repeat (first | apply Kd.R_alloc | apply Kd.R_drewN | apply Kd.R_drew)); exact HO238.out))) (below_size (by repeat (first | (with_reducible first | exact HB.out | apply below_alloc | apply pw_below_drewN | apply below_drew1) | exact HB.out)))); have n8_ := Aside0.mk (below_step (by repeat (first | (with_reducible first | exact HB.out | apply below_alloc | apply pw_below_drewN | apply below_drew1) | exact HB.out)) hb); clear HO219; clear HO222; clear HO225; clear HO229; clear HO232; clear HO235; clear HO238; clear HB; have HO219 := n0_; have HO222 := n1_; have HO225 := n2_; have HO229 := n3_; have HO232 := n4_; have HO235 := n5_; have HO238 := n6_; have HO241 := n7_; have HB := n8_; clear n0_ n1_ n2_ n3_ n4_ n5_ n6_ n7_ n8_; (try clear hb); (try clear hb2); (try clear hk); (try clear hi); (try clear ho0); obtain ⟨Ao43, co43, eo43⟩ := Kd.R_slice HO238.out; subst eo43; obtain ⟨Ao44, co44, eo44⟩ := Kd.R_slice HO241.out; subst eo44) | (go_at_call 12; (with_reducible refine (orielref27_Lines.calls kj2 a1 t230 _ A16.out).mono ?_); rintro e w37 ⟨v231, rfl, ho0, hb⟩; have n0_ := Aside0.mk (Kd.R_elder' (by (with_reducible repeat (first | apply Kd.R_alloc | apply Kd.R_drewN | apply Kd.R_drew)); exact HO219.out) (Kd.R_base ho0) hb); have n1_ := Aside0.mk (Kd.R_elder' (by (with_reducible repeat (first | apply Kd.R_alloc | apply Kd.R_drewN | apply Kd.R_drew)); exact HO222.out) (Kd.R_base ho0) hb); have n2_ := Aside0.mk (Kd.R_elder' (by (with_reducible repeat (first | apply Kd.R_alloc | apply Kd.R_drewN | apply Kd.R_drew)); exact HO225.out) (Kd.R_base ho0) hb); have n3_ := Aside0.mk (Kd.R_elder' (by (with_reducible repeat (first | apply Kd.R_alloc | apply Kd.R_drewN | apply Kd.R_drew)); exact HO229.out) (Kd.R_base ho0) hb); have n4_ := Aside0.mk (Kd.R_lower (Kd.R_new' (Kd.R_new' (Kd.R_new' (Kd.R_new' ho0 (Kd.R_lt (by (with_reducible repeat (first | apply Kd.R_alloc | apply Kd.R_drewN | apply Kd.R_drew)); exact HO219.out))) (Kd.R_lt (by (with_reducible repeat (first | apply Kd.R_alloc | apply Kd.R_drewN | apply Kd.R_drew)); exact HO222.out))) (Kd.R_lt (by (with_reducible repeat (first | apply Kd.R_alloc | apply Kd.R_drewN | apply Kd.R_drew)); exact HO225.out))) (Kd.R_lt (by (with_reducible repeat (first | apply Kd.R_alloc | apply Kd.R_drewN | apply Kd.R_drew)); exact HO229.out))) (below_size (by repeat (first | (with_reducible first | exact HB.out | apply below_alloc | apply pw_below_drewN | apply below_drew1) | exact HB.out)))); have n5_ := Aside0.mk (below_step (by repeat (first | (with_reducible first | exact HB.out | apply below_alloc | apply pw_below_drewN | apply below_drew1) | exact HB.out)) hb); clear HO219; clear HO222; clear HO225; clear HO229; clear HB; have HO219 := n0_; have HO222 := n1_; have HO225 := n2_; have HO229 := n3_; have HO232 := n4_; have HB := n5_; clear n0_ n1_ n2_ n3_ n4_ n5_; (try clear hb); (try clear hb2); (try clear hk); (try clear hi); (try clear ho0); obtain ⟨Ao38, co38, eo38⟩ := Kd.R_slice HO229.out; subst eo38; obtain ⟨Ao39, co39, eo39⟩ := Kd.R_slice HO232.out; subst eo39) | (go_at_call 14; (with_reducible refine (diff_Common.calls _ _ t227 _ _ t230 t233 _ ?side1 ?side2 ?side3 ?side4 A17.out).mono ?_); (case side1 => repeat (first | exact (Kd.R_reads' HO229.out).2.2 | (with_reducible refine Kd.C_alloc ?_ _) | (with_reducible refine Kd.C_drewN ?_ _) | (with_reducible refine Kd.C_drew ?_))); (case side2 => exact (Kd.R_reads' HO229.out).2.1); (case side3 => repeat (first | exact (Kd.R_reads' HO232.out).2.2 | (with_reducible refine Kd.C_alloc ?_ _) | (with_reducible refine Kd.C_drewN ?_ _) | (with_reducible refine Kd.C_drew ?_))); (case side4 => exact (Kd.R_reads' HO232.out).2.1); rintro e w40 ⟨v234, rfl, ho0, hb⟩; have n0_ := Aside0.mk (Kd.R_below (by (with_reducible repeat (first | apply Kd.R_alloc | apply Kd.R_drewN | apply Kd.R_drew)); exact HO219.out) hb); have n1_ := Aside0.mk (Kd.R_below (by (with_reducible repeat (first | apply Kd.R_alloc | apply Kd.R_drewN | apply Kd.R_drew)); exact HO222.out) hb); have n2_ := Aside0.mk (Kd.R_below (by (with_reducible repeat (first | apply Kd.R_alloc | apply Kd.R_drewN | apply Kd.R_drew)); exact HO225.out) hb); have n3_ := Aside0.mk (Kd.R_below (by (with_reducible repeat (first | apply Kd.R_alloc | apply Kd.R_drewN | apply Kd.R_drew)); exact HO229.out) hb); have n4_ := Aside0.mk (Kd.R_below (by (with_reducible repeat (first | apply Kd.R_alloc | apply Kd.R_drewN | apply Kd.R_drew)); exact HO232.out) hb); have n5_ := Aside0.mk (Kd.R_lower ho0 (below_size (by repeat (first | (with_reducible first | exact HB.out | apply below_alloc | apply pw_below_drewN | apply below_drew1) | exact HB.out)))); have n6_ := Aside0.mk (below_step (by repeat (first | (with_reducible first | exact HB.out | apply below_alloc | apply pw_below_drewN | apply below_drew1) | exact HB.out)) hb); clear HO219; clear HO222; clear HO225; clear HO229; clear HO232; clear HB; have HO219 := n0_; have HO222 := n1_; have HO225 := n2_; have HO229 := n3_; have HO232 := n4_; have HO235 := n5_; have HB := n6_; clear n0_ n1_ n2_ n3_ n4_ n5_ n6_; (try clear hb); (try clear hb2); (try clear hk); (try clear hi); (try clear ho0)) | (go_at_call 15; (with_reducible refine (orielref27_Common.calls kj2 _ _ t236 _ _ t239 t242 _ ?side1 ?side2 ?side3 ?side4 A20.out).mono ?_); (case side1 => repeat (first | exact (Kd.R_reads' HO238.out).2.2 | (with_reducible refine Kd.C_alloc ?_ _) | (with_reducible refine Kd.C_drewN ?_ _) | (with_reducible refine Kd.C_drew ?_))); (case side2 => exact (Kd.R_reads' HO238.out).2.1); (case side3 => repeat (first | exact (Kd.R_reads' HO241.out).2.2 | (with_reducible refine Kd.C_alloc ?_ _) | (with_reducible refine Kd.C_drewN ?_ _) | (with_reducible refine Kd.C_drew ?_))); (case side4 => exact (Kd.R_reads' HO241.out).2.1); rintro e w45 ⟨v243, rfl, ho0, hb⟩; have n0_ := Aside0.mk (Kd.R_below (by (with_reducible repeat (first | apply Kd.R_alloc | apply Kd.R_drewN | apply Kd.R_drew)); exact HO219.out) hb); have n1_ := Aside0.mk (Kd.R_below (by (with_reducible repeat (first | apply Kd.R_alloc | apply Kd.R_drewN | apply Kd.R_drew)); exact HO222.out) hb); have n2_ := Aside0.mk (Kd.R_below (by (with_reducible repeat (first | apply Kd.R_alloc | apply Kd.R_drewN | apply Kd.R_drew)); exact HO225.out) hb); have n3_ := Aside0.mk (Kd.R_below (by (with_reducible repeat (first | apply Kd.R_alloc | apply Kd.R_drewN | apply Kd.R_drew)); exact HO229.out) hb); have n4_ := Aside0.mk (Kd.R_below (by (with_reducible repeat (first | apply Kd.R_alloc | apply Kd.R_drewN | apply Kd.R_drew)); exact HO232.out) hb); have n5_ := Aside0.mk (Kd.R_elder' (by (with_reducible repeat (first | apply Kd.R_alloc | apply Kd.R_drewN | apply Kd.R_drew)); exact HO235.out) (Kd.R_base ho0) hb); have n6_ := Aside0.mk (Kd.R_below (by (with_reducible repeat (first | apply Kd.R_alloc | apply Kd.R_drewN | apply Kd.R_drew)); exact HO238.out) hb); have n7_ := Aside0.mk (Kd.R_below (by (with_reducible repeat (first | apply Kd.R_alloc | apply Kd.R_drewN | apply Kd.R_drew)); exact HO241.out) hb); have n8_ := Aside0.mk (Kd.R_lower (Kd.R_new' ho0 (Kd.R_lt (by (with_reducible repeat (first | apply Kd.R_alloc | apply Kd.R_drewN | apply Kd.R_drew)); exact HO235.out))) (below_size (by repeat (first | (with_reducible first | exact HB.out | apply below_alloc | apply pw_below_drewN | apply below_drew1) | exact HB.out)))); have n9_ := Aside0.mk (below_step (by repeat (first | (with_reducible first | exact HB.out | apply below_alloc | apply pw_below_drewN | apply below_drew1) | exact HB.out)) hb); clear HO219; clear HO222; clear HO225; clear HO229; clear HO232; clear HO235; clear HO238; clear HO241; clear HB; have HO219 := n0_; have HO222 := n1_; have HO225 := n2_; have HO229 := n3_; have HO232 := n4_; have HO235 := n5_; have HO238 := n6_; have HO241 := n7_; have HO244 := n8_; have HB := n9_; clear n0_ n1_ n2_ n3_ n4_ n5_ n6_ n7_ n8_ n9_; (try clear hb); (try clear hb2); (try clear hk); (try clear hi); (try clear ho0); obtain ⟨Ao46, co46, eo46⟩ := Kd.R_slice HO235.out; subst eo46; obtain ⟨Ao47, co47, eo47⟩ := Kd.R_slice HO244.out; subst eo47) | (go_at_call 13; (with_reducible refine (orielref12_Pairs.calls kj2 _ _ t233 _ _ t242 true _ ?side1 ?side2 ?side3 ?side4 A21.out).mono ?_); (case side1 => repeat (first | exact (Kd.R_reads' HO235.out).2.2 | (with_reducible refine Kd.C_alloc ?_ _) | (with_reducible refine Kd.C_drewN ?_ _) | (with_reducible refine Kd.C_drew ?_))); (case side2 => exact (Kd.R_reads' HO235.out).2.1); (case side3 => repeat (first | exact (Kd.R_reads' HO244.out).2.2 | (with_reducible refine Kd.C_alloc ?_ _) | (with_reducible refine Kd.C_drewN ?_ _) | (with_reducible refine Kd.C_drew ?_))); (case side4 => exact (Kd.R_reads' HO244.out).2.1); rintro e w' ⟨rfl, ⟨nd, rfl⟩⟩) | (go_at_call 11; (with_reducible refine (orielref04_Texts.calls kj2 _ _ t220 _ _ t246 true _ ?side1 ?side2 ?side3 ?side4 A24.out).mono ?_); (case side1 => repeat (first | exact (Kd.R_reads' HO222.out).2.2 | (with_reducible refine Kd.C_alloc ?_ _) | (with_reducible refine Kd.C_drewN ?_ _) | (with_reducible refine Kd.C_drew ?_))); (case side2 => exact (Kd.R_reads' HO222.out).2.1); (case side3 => repeat (first | exact (Kd.R_reads' HO248.out).2.2 | (with_reducible refine Kd.C_alloc ?_ _) | (with_reducible refine Kd.C_drewN ?_ _) | (with_reducible refine Kd.C_drew ?_))); (case side4 => exact (Kd.R_reads' HO248.out).2.1); rintro e w' ⟨rfl, ⟨nd, rfl⟩⟩) | (go_at_call 17; (with_reducible refine (diff_Edits.calls kj2 a0 a1 t250 _ A26.out).mono ?_); rintro e w51 ⟨v251, rfl, ho0, hb⟩; have n0_ := Aside0.mk (Kd.R_below (by (with_reducible repeat (first | apply Kd.R_alloc | apply Kd.R_drewN | apply Kd.R_drew)); exact HO219.out) hb); have n1_ := Aside0.mk (Kd.R_below (by (with_reducible repeat (first | apply Kd.R_alloc | apply Kd.R_drewN | apply Kd.R_drew)); exact HO222.out) hb); have n2_ := Aside0.mk (Kd.R_below (by (with_reducible repeat (first | apply Kd.R_alloc | apply Kd.R_drewN | apply Kd.R_drew)); exact HO225.out) hb); have n3_ := Aside0.mk (Kd.R_below (by (with_reducible repeat (first | apply Kd.R_alloc | apply Kd.R_drewN | apply Kd.R_drew)); exact HO229.out) hb); have n4_ := Aside0.mk (Kd.R_below (by (with_reducible repeat (first | apply Kd.R_alloc | apply Kd.R_drewN | apply Kd.R_drew)); exact HO232.out) hb); have n5_ := Aside0.mk (Kd.R_below (by (with_reducible repeat (first | apply Kd.R_alloc | apply Kd.R_drewN | apply Kd.R_drew)); exact HO235.out) hb); have n6_ := Aside0.mk (Kd.R_below (by (with_reducible repeat (first | apply Kd.R_alloc | apply Kd.R_drewN | apply Kd.R_drew)); exact HO238.out) hb); have n7_ := Aside0.mk (Kd.R_below (by (with_reducible repeat (first | apply Kd.R_alloc | apply Kd.R_drewN | apply Kd.R_drew)); exact HO241.out) hb); have n8_ := Aside0.mk (Kd.R_below (by (with_reducible repeat (first | apply Kd.R_alloc | apply Kd.R_drewN | apply Kd.R_drew)); exact HO244.out) hb); have n9_ := Aside0.mk (Kd.R_below (by (with_reducible repeat (first | apply Kd.R_alloc | apply Kd.R_drewN | apply Kd.R_drew)); exact HO248.out) hb); have n10_ := Aside0.mk (Kd.R_lower ho0 (below_size (by repeat (first | (with_reducible first | exact HB.out | apply below_alloc | apply pw_below_drewN | apply below_drew1) | exact HB.out)))); have n11_ := Aside0.mk (below_step (by repeat (first | (with_reducible first | exact HB.out | apply below_alloc | apply pw_below_drewN | apply below_drew1) | exact HB.out)) hb); clear HO219; clear HO222; clear HO225; clear HO229; clear HO232; clear HO235; clear HO238; clear HO241; clear HO244; clear HO248; clear HB; have HO219 := n0_; have HO222 := n1_; have HO225 := n2_; have HO229 := n3_; have HO232 := n4_; have HO235 := n5_; have HO238 := n6_; have HO241 := n7_; have HO244 := n8_; have HO248 := n9_; have HO252 := n10_; have HB := n11_; clear n0_ n1_ n2_ n3_ n4_ n5_ n6_ n7_ n8_ n9_ n10_ n11_; (try clear hb); (try clear hb2); (try clear hk); (try clear hi); (try clear ho0)) | (go_at_call 18; (with_reducible refine (orielref27_Edits.calls kj2 a0 a1 t253 _ A27.out).mono ?_); rintro e w52 ⟨v254, rfl, ho0, hb⟩; have n0_ := Aside0.mk (Kd.R_below (by (with_reducible repeat (first | apply Kd.R_alloc | apply Kd.R_drewN | apply Kd.R_drew)); exact HO219.out) hb); have n1_ := Aside0.mk (Kd.R_below (by (with_reducible repeat (first | apply Kd.R_alloc | apply Kd.R_drewN | apply Kd.R_drew)); exact HO222.out) hb); have n2_ := Aside0.mk (Kd.R_below (by (with_reducible repeat (first | apply Kd.R_alloc | apply Kd.R_drewN | apply Kd.R_drew)); exact HO225.out) hb); have n3_ := Aside0.mk (Kd.R_below (by (with_reducible repeat (first | apply Kd.R_alloc | apply Kd.R_drewN | apply Kd.R_drew)); exact HO229.out) hb); have n4_ := Aside0.mk (Kd.R_below (by (with_reducible repeat (first | apply Kd.R_alloc | apply Kd.R_drewN | apply Kd.R_drew)); exact HO232.out) hb); have n5_ := Aside0.mk (Kd.R_below (by (with_reducible repeat (first | apply Kd.R_alloc | apply Kd.R_drewN | apply Kd.R_drew)); exact HO235.out) hb); have n6_ := Aside0.mk (Kd.R_below (by (with_reducible repeat (first | apply Kd.R_alloc | apply Kd.R_drewN | apply Kd.R_drew)); exact HO238.out) hb); have n7_ := Aside0.mk (Kd.R_below (by (with_reducible repeat (first | apply Kd.R_alloc | apply Kd.R_drewN | apply Kd.R_drew)); exact HO241.out) hb); have n8_ := Aside0.mk (Kd.R_below (by (with_reducible repeat (first | apply Kd.R_alloc | apply Kd.R_drewN | apply Kd.R_drew)); exact HO244.out) hb); have n9_ := Aside0.mk (Kd.R_below (by (with_reducible repeat (first | apply Kd.R_alloc | apply Kd.R_drewN | apply Kd.R_drew)); exact HO248.out) hb); have n10_ := Aside0.mk (Kd.R_elder' (by (with_reducible repeat (first | apply Kd.R_alloc | apply Kd.R_drewN | apply Kd.R_drew)); exact HO252.out) (Kd.R_base ho0) hb); have n11_ := Aside0.mk (Kd.R_lower (Kd.R_new' ho0 (Kd.R_lt (by (with_reducible repeat (first | apply Kd.R_alloc | apply Kd.R_drewN | apply Kd.R_drew)); exact HO252.out))) (below_size (by repeat (first | (with_reducible first | exact HB.out | apply below_alloc | apply pw_below_drewN | apply below_drew1) | exact HB.out)))); have n12_ := Aside0.mk (below_step (by repeat (first | (with_reducible first | exact HB.out | apply below_alloc | apply pw_below_drewN | apply below_drew1) | exact HB.out)) hb); clear HO219; clear HO222; clear HO225; clear HO229; clear HO232; clear HO235; clear HO238; clear HO241; clear HO244; clear HO248; clear HO252; clear HB; have HO219 := n0_; have HO222 := n1_; have HO225 := n2_; have HO229 := n3_; have HO232 := n4_; have HO235 := n5_; have HO238 := n6_; have HO241 := n7_; have HO244 := n8_; have HO248 := n9_; have HO252 := n10_; have HO255 := n11_; have HB := n12_; clear n0_ n1_ n2_ n3_ n4_ n5_ n6_ n7_ n8_ n9_ n10_ n11_ n12_; (try clear hb); (try clear hb2); (try clear hk); (try clear hi); (try clear ho0); obtain ⟨Ao53, co53, eo53⟩ := Kd.R_slice HO252.out; subst eo53; obtain ⟨Ao54, co54, eo54⟩ := Kd.R_slice HO255.out; subst eo54) | (go_at_call 16; (with_reducible refine (orielref02_Same.calls kj2 _ _ t250 _ _ t253 true _ ?side1 ?side2 ?side3 ?side4 A28.out).mono ?_); (case side1 => repeat (first | exact (Kd.R_reads' HO252.out).2.2 | (with_reducible refine Kd.C_alloc ?_ _) | (with_reducible refine Kd.C_drewN ?_ _) | (with_reducible refine Kd.C_drew ?_))); (case side2 => exact (Kd.R_reads' HO252.out).2.1); (case side3 => repeat (first | exact (Kd.R_reads' HO255.out).2.2 | (with_reducible refine Kd.C_alloc ?_ _) | (with_reducible refine Kd.C_drewN ?_ _) | (with_reducible refine Kd.C_drew ?_))); (case side4 => exact (Kd.R_reads' HO255.out).2.1); rintro e w' ⟨rfl, ⟨nd, rfl⟩⟩) | (go_at_call 9; (with_reducible refine (oriellaw27_alive.calls kj2  t257 _ A30.out).mono ?_); rintro e w55 ⟨rfl, hb⟩; have n0_ := Aside0.mk (Kd.R_below (by (with_reducible repeat (first | apply Kd.R_alloc | apply Kd.R_drewN | apply Kd.R_drew)); exact HO219.out) hb); have n1_ := Aside0.mk (Kd.R_below (by (with_reducible repeat (first | apply Kd.R_alloc | apply Kd.R_drewN | apply Kd.R_drew)); exact HO222.out) hb); have n2_ := Aside0.mk (Kd.R_below (by (with_reducible repeat (first | apply Kd.R_alloc | apply Kd.R_drewN | apply Kd.R_drew)); exact HO225.out) hb); have n3_ := Aside0.mk (Kd.R_below (by (with_reducible repeat (first | apply Kd.R_alloc | apply Kd.R_drewN | apply Kd.R_drew)); exact HO229.out) hb); have n4_ := Aside0.mk (Kd.R_below (by (with_reducible repeat (first | apply Kd.R_alloc | apply Kd.R_drewN | apply Kd.R_drew)); exact HO232.out) hb); have n5_ := Aside0.mk (Kd.R_below (by (with_reducible repeat (first | apply Kd.R_alloc | apply Kd.R_drewN | apply Kd.R_drew)); exact HO235.out) hb); have n6_ := Aside0.mk (Kd.R_below (by (with_reducible repeat (first | apply Kd.R_alloc | apply Kd.R_drewN | apply Kd.R_drew)); exact HO238.out) hb); have n7_ := Aside0.mk (Kd.R_below (by (with_reducible repeat (first | apply Kd.R_alloc | apply Kd.R_drewN | apply Kd.R_drew)); exact HO241.out) hb); have n8_ := Aside0.mk (Kd.R_below (by (with_reducible repeat (first | apply Kd.R_alloc | apply Kd.R_drewN | apply Kd.R_drew)); exact HO244.out) hb); have n9_ := Aside0.mk (Kd.R_below (by (with_reducible repeat (first | apply Kd.R_alloc | apply Kd.R_drewN | apply Kd.R_drew)); exact HO248.out) hb); have n10_ := Aside0.mk (Kd.R_below (by (with_reducible repeat (first | apply Kd.R_alloc | apply Kd.R_drewN | apply Kd.R_drew)); exact HO252.out) hb); have n11_ := Aside0.mk (Kd.R_below (by (with_reducible repeat (first | apply Kd.R_alloc | apply Kd.R_drewN | apply Kd.R_drew)); exact HO255.out) hb); have n12_ := Aside0.mk (below_step (by repeat (first | (with_reducible first | exact HB.out | apply below_alloc | apply pw_below_drewN | apply below_drew1) | exact HB.out)) hb); clear HO219; clear HO222; clear HO225; clear HO229; clear HO232; clear HO235; clear HO238; clear HO241; clear HO244; clear HO248; clear HO252; clear HO255; clear HB; have HO219 := n0_; have HO222 := n1_; have HO225 := n2_; have HO229 := n3_; have HO232 := n4_; have HO235 := n5_; have HO238 := n6_; have HO241 := n7_; have HO244 := n8_; have HO248 := n9_; have HO252 := n10_; have HO255 := n11_; have HB := n12_; clear n0_ n1_ n2_ n3_ n4_ n5_ n6_ n7_ n8_ n9_ n10_ n11_ n12_; (try clear hb); (try clear hb2); (try clear hk); (try clear hi)))
                go_ret
                exact ⟨by first | rfl | (simp [errW_none, errW_some] <;> rfl) | (simp [*, errW_none, errW_some] <;> rfl), by repeat (first | (with_reducible first | exact HB.out | apply below_alloc | apply pw_below_drewN | apply below_drew1) | exact HB.out)⟩
              · replace c29 := Bool.eq_false_iff.mpr c29
                subst c29
                have H1 : (none) = some r := by rw [if_neg (show ¬ (false = true) by decide)] at H; exact H
                clear H
                have H := H1
                clear H1
                exact absurd H (by simp)
            · replace c25 := Bool.eq_false_iff.mpr c25
              subst c25
              have H1 : (none) = some r := by rw [if_neg (show ¬ (false = true) by decide)] at H; exact H
              clear H
              have H := H1
              clear H1
              exact absurd H (by simp)
          · replace c22 := Bool.eq_false_iff.mpr c22
            subst c22
            have H1 : (none) = some r := by rw [if_neg (show ¬ (false = true) by decide)] at H; exact H
            clear H
            have H := H1
            clear H1
            exact absurd H (by simp)
        · replace c14 := Bool.eq_false_iff.mpr c14
          subst c14
          have H1 : (none) = some r := by rw [if_neg (show ¬ (false = true) by decide)] at H; exact H
          clear H
          have H := H1
          clear H1
          exact absurd H (by simp)

end Go.Proofs.YtnemooemifbbhaaDoor.PDM
