-- Written by ownprint.py, a program of this session (out of the kit's print, with contracts of the session's own).
import Derived.Test.YtjekpecobkaaoaaDoorPAllx0
import Derived.Test.YtjekpecobkaaoaaDoorPAllx1
import Derived.Test.YtjekpecobkaaoaaDoorPAllx2
import Derived.Test.YtjekpecobkaaoaaDoorPAllx8
import Derived.Test.YtjekpecobkaaoaaDoorPAllx10
import Derived.Test.YtjekpecobkaaoaaDoorPAllx11
import Derived.Test.YtjekpecobkaaoaaDoorPAllx13
import Derived.Test.YtjekpecobkaaoaaDoorPAllx15
import Derived.Test.YtjekpecobkaaoaaDoorPAllx18
import Derived.Test.YtjekpecobkaaoaaDoorPAllx19
namespace Go.Proofs.YtjekpecobkaaoaaDoor.PAll
open Go.RowKit Go.Proofs.YtjekpecobkaaoaaDoorW.PrintWords Go.Proofs.YtjekpecobkaaoaaDoorW.PrintLast Go.Proofs.YtjekpecobkaaoaaDoorW.PrintMore
attribute [local go_sem] max2_int min2_int max_two min_two max_three min_three max_four min_four   -- for this text's walks alone
set_option linter.unusedVariables false
set_option linter.unusedSimpArgs false

/-! ### oriellaw03_PackBack: function 8 -/
mutual
def oriellaw03_PackBack.j0 : Nat → Int → Int → List Int → List Int → Bool → Option (Bool)
  | 0, _, _, _, _, _ => none
  | k + 1, x0, x1, x2, x3, x23 => if x23 = true then ((oriellaw03_alive.f k).bind fun t237 => (some t237)) else ((pack_Put.f k ([] : List Int) x0).bind fun t238 => ((pack_Get.f k t238).bind fun bt241 => ((oriellaw01_No.f bt241.2.2).bind fun t244 => (if t244 = 0 then (if bt241.1 = x0 then ((pack_Put.f k ([] : List Int) x0).bind fun t245 => (if bt241.2.1 = (t245.length : Int) then ((pack_Zig.f x1).bind fun t248 => ((pack_Zag.f t248).bind fun t249 => (if t249 = x1 then ((pack_Zig.f x1).bind fun t250 => ((orielref03_Zig.f x1).bind fun t251 => (if t248 = t251 then ((pack_Zag.f x0).bind fun t252 => ((pack_Zig.f t252).bind fun t253 => (oriellaw03_PackBack.j1 k x2 x3 (t253 != x0)))) else (none)))) else (none)))) else (none))) else (none)) else (none)))))
def oriellaw03_PackBack.j1 : Nat → List Int → List Int → Bool → Option (Bool)
  | 0, _, _, _ => none
  | k + 1, x2, x3, x67 => if x67 = true then (none) else ((pack_Bytes.f k x2).bind fun t254 => ((pack_Bytes.f k x3).bind fun t257 => ((pack_Ints.f k t254).bind fun bt260 => ((oriellaw01_No.f bt260.2).bind fun t264 => (if t264 = 0 then ((oriellaw01_Ints.f k bt260.1 x2).bind fun t265 => (if t265 = true then ((orielref03_Equal.f t254 t257).bind fun t266 => ((oriellaw01_Ints.f k x2 x3).bind fun t267 => (if (t266 == t267) = true then ((oriellaw03_alive.f k).bind fun t268 => (some t268)) else (none)))) else (none))) else (none))))))
end
def oriellaw03_PackBack.f (k : Nat) (a0 : Int) (a1 : Int) (l2 : List Int) (l3 : List Int) : Option (Bool) := if (l2.length : Int) > 200 then (oriellaw03_PackBack.j0 k a0 a1 l2 l3 true) else (oriellaw03_PackBack.j0 k a0 a1 l2 l3 (decide ((l3.length : Int) > 200)))
theorem oriellaw03_PackBack.mono_l : ∀ k, (∀ y0 y1 y2 y3 y4, LeO (oriellaw03_PackBack.j0 k y0 y1 y2 y3 y4) (oriellaw03_PackBack.j0 (k + 1) y0 y1 y2 y3 y4)) ∧ (∀ y0 y1 y2, LeO (oriellaw03_PackBack.j1 k y0 y1 y2) (oriellaw03_PackBack.j1 (k + 1) y0 y1 y2))
  | 0 => ⟨fun _ _ _ _ _ r h => by simp [oriellaw03_PackBack.j0] at h, fun _ _ _ r h => by simp [oriellaw03_PackBack.j1] at h⟩
  | k + 1 => by
    obtain ⟨ih0, ih1⟩ := oriellaw03_PackBack.mono_l k
    refine ⟨?_, ?_⟩
    · intro y0 y1 y2 y3 y4
      unfold oriellaw03_PackBack.j0
      repeat' first
      | (with_reducible exact ih0 _ _ _ _ _)
      | (with_reducible exact ih1 _ _ _)
      | (with_reducible exact oriellaw01_Ints.mono _ _ _)
      | (with_reducible exact oriellaw03_alive.mono _)
      | (with_reducible exact pack_Bytes.mono _ _)
      | (with_reducible exact pack_Get.mono _ _)
      | (with_reducible exact pack_Ints.mono _ _)
      | (with_reducible exact pack_Put.mono _ _ _)
      | (with_reducible exact LeO.refl _)
      | (with_reducible exact LeO.none _)
      | (with_reducible refine LeO.ite ?_ ?_)
      | (with_reducible refine LeO.bind ?_ (fun _ => ?_))
      | exact ih0 _ _ _ _ _
      | exact ih1 _ _ _
      | exact oriellaw01_Ints.mono _ _ _
      | exact oriellaw03_alive.mono _
      | exact pack_Bytes.mono _ _
      | exact pack_Get.mono _ _
      | exact pack_Ints.mono _ _
      | exact pack_Put.mono _ _ _
      | exact LeO.none _
      | refine LeO.ite ?_ ?_
      | refine LeO.bind ?_ (fun _ => ?_)
    · intro y0 y1 y2
      unfold oriellaw03_PackBack.j1
      repeat' first
      | (with_reducible exact ih0 _ _ _ _ _)
      | (with_reducible exact ih1 _ _ _)
      | (with_reducible exact oriellaw01_Ints.mono _ _ _)
      | (with_reducible exact oriellaw03_alive.mono _)
      | (with_reducible exact pack_Bytes.mono _ _)
      | (with_reducible exact pack_Get.mono _ _)
      | (with_reducible exact pack_Ints.mono _ _)
      | (with_reducible exact pack_Put.mono _ _ _)
      | (with_reducible exact LeO.refl _)
      | (with_reducible exact LeO.none _)
      | (with_reducible refine LeO.ite ?_ ?_)
      | (with_reducible refine LeO.bind ?_ (fun _ => ?_))
      | exact ih0 _ _ _ _ _
      | exact ih1 _ _ _
      | exact oriellaw01_Ints.mono _ _ _
      | exact oriellaw03_alive.mono _
      | exact pack_Bytes.mono _ _
      | exact pack_Get.mono _ _
      | exact pack_Ints.mono _ _
      | exact pack_Put.mono _ _ _
      | exact LeO.none _
      | refine LeO.ite ?_ ?_
      | refine LeO.bind ?_ (fun _ => ?_)
theorem oriellaw03_PackBack.mono : ∀ a0 a1 a2 a3 k, LeO (oriellaw03_PackBack.f k a0 a1 a2 a3) (oriellaw03_PackBack.f (k + 1) a0 a1 a2 a3) := by
  intro a0 a1 a2 a3 k
  obtain ⟨ih0, ih1⟩ := oriellaw03_PackBack.mono_l k
  unfold oriellaw03_PackBack.f
  repeat' first
      | (with_reducible exact ih0 _ _ _ _ _)
      | (with_reducible exact ih1 _ _ _)
      | (with_reducible exact oriellaw01_Ints.mono _ _ _)
      | (with_reducible exact oriellaw03_alive.mono _)
      | (with_reducible exact pack_Bytes.mono _ _)
      | (with_reducible exact pack_Get.mono _ _)
      | (with_reducible exact pack_Ints.mono _ _)
      | (with_reducible exact pack_Put.mono _ _ _)
      | (with_reducible exact LeO.refl _)
      | (with_reducible exact LeO.none _)
      | (with_reducible refine LeO.ite ?_ ?_)
      | (with_reducible refine LeO.bind ?_ (fun _ => ?_))
      | exact ih0 _ _ _ _ _
      | exact ih1 _ _ _
      | exact oriellaw01_Ints.mono _ _ _
      | exact oriellaw03_alive.mono _
      | exact pack_Bytes.mono _ _
      | exact pack_Get.mono _ _
      | exact pack_Ints.mono _ _
      | exact pack_Put.mono _ _ _
      | exact LeO.none _
      | refine LeO.ite ?_ ?_
      | refine LeO.bind ?_ (fun _ => ?_)
set_option maxHeartbeats 8000000 in
set_option maxRecDepth 100000 in
theorem oriellaw03_PackBack.calls (k : Nat) (a0 : Int) (a1 : Int) (A2 : Option Addr) (c2 : Nat) (l2 : List Int) (A3 : Option Addr) (c3 : Nat) (l3 : List Int) (r : Bool) (w : World) (hr2 : Kd.C (Kd.int .i64) w A2 l2.length l2) (hc2 : l2.length ≤ c2) (hr3 : Kd.C (Kd.int .i64) w A3 l3.length l3) (hc3 : l3.length ≤ c3) (hT : TabW w) (h : oriellaw03_PackBack.f k a0 a1 l2 l3 = some r) :
    Calls Tryd.prog 8 #[.int .u64 a0, .int .i64 a1, .slice A2 l2.length c2, .slice A3 l3.length c3] w fun e w' => e = .returned (.bool r) ∧ Below w.heap.size w w' := by
  have HT := Aside0.mk hT
  clear hT
  have HR2 := Aside0.mk hr2
  have HC2 := Aside0.mk hc2
  clear hr2 hc2
  have HR3 := Aside0.mk hr3
  have HC3 := Aside0.mk hc3
  clear hr3 hc3
  have HB := Aside0.mk (Below.refl w.heap.size w)
  have H : (if (l2.length : Int) > 200 then (oriellaw03_PackBack.j0 k a0 a1 l2 l3 true) else (oriellaw03_PackBack.j0 k a0 a1 l2 l3 (decide ((l3.length : Int) > 200)))) = some r := h
  clear h
  have HC5 := Aside0.mk H
  clear H
  go_enter Tryd.func8, Tryd.ntmps8
  go_upto_region 1 with (fail)
  go_cut [23] (fun v23 wc => ∃ (kq : Nat) (x23_4 : Bool), v23 = .bool x23_4 ∧ Aside0 (oriellaw03_PackBack.j0 kq a0 a1 l2 l3 x23_4 = some r) ∧ Aside0 (kq ≤ k) ∧ Aside0 (Below w.heap.size w wc))
  case first =>
    have H := HC5.out
    clear HC5
    by_cases c6 : (l2.length : Int) > 200
    · rw [if_pos c6] at H
      have c6b0 : decide (200 < (l2.length : Int)) = true := decide_eq_true c6
      have c6b1 : decide (200 < l2.length) = true := decide_eq_true (by omega)
      clear c6
      (first | rw [c6b0] | (simp only [i64_w, i32_w]; rw [c6b0]) | skip)
      have H' := Aside0.mk H
      clear H
      go_wp2
      go_meet
      case rel => exact ⟨_, (true), (by first | rfl | (simp; done) | (simp [*]; done)), H', ⟨by first | omega | exact Nat.le_refl _⟩, ⟨by repeat (first | (with_reducible first | exact HB.out | apply below_alloc | apply pw_below_drewN | apply below_drew1) | exact HB.out)⟩⟩
    · rw [if_neg c6] at H
      have c6b0 : decide (200 < (l2.length : Int)) = false := decide_eq_false c6
      have c6b1 : decide (200 < l2.length) = false := decide_eq_false (by omega)
      clear c6
      (first | rw [c6b0] | (simp only [i64_w, i32_w]; rw [c6b0]) | skip)
      have H' := Aside0.mk H
      clear H
      go_wp2
      go_meet
      case rel => exact ⟨_, (decide ((l3.length : Int) > 200)), (by first | rfl | (simp; done) | (simp [*]; done)), H', ⟨by first | omega | exact Nat.le_refl _⟩, ⟨by repeat (first | (with_reducible first | exact HB.out | apply below_alloc | apply pw_below_drewN | apply below_drew1) | exact HB.out)⟩⟩
  case rest =>
    clear HC5
    try clear c2
    try clear p2
    try clear c3
    try clear c6
    try clear c6b0
    try clear c6b1
    obtain ⟨kq, x23_4, rfl, HA, HJ4, HB⟩ := hcut
    cases kq with
    | zero => exact absurd HA.out (by simp [oriellaw03_PackBack.j0])
    | succ kj4 =>
      have H := HA.out
      clear HA
      simp only [oriellaw03_PackBack.j0] at H
      by_cases c7 : x23_4 = true
      · subst c7
        have H1 : ((oriellaw03_alive.f kj4).bind fun t237 => (some t237)) = some r := by rw [if_pos rfl] at H; exact H
        clear H
        have H := H1
        clear H1
        replace H := Option.bind_eq_some_iff.mp H
        obtain ⟨t237, A80, H⟩ := H
        replace H : (some t237) = some r := H
        have A8 := Aside0.mk A80
        clear A80
        obtain rfl := Option.some.inj H
        go_wp2_with (first | ((with_reducible refine gate_callee (f := 12) rfl ?_); refine goesL_ (some 24) rfl rfl Tryd.func12 (by kernel_rfl) rfl #[] rfl (by (try simp only [List.map_toArray, List.map_cons, List.map_nil]); first | done | rfl | (simp only [List.length_drop, List.length_take]; rfl)) ?_; (with_reducible refine (oriellaw03_alive.calls kj4  t237 _ ?sideT A8.out).mono ?_); (case sideT => first | exact HT.out | exact TabW.below HT.out (by repeat (first | (with_reducible first | exact HB.out | apply below_alloc | apply pw_below_drewN | apply below_drew1) | exact HB.out))); rintro e w9 ⟨rfl, hb⟩; refine ⟨_, rfl, ?_⟩; have n0_ := Aside0.mk (below_step (by repeat (first | (with_reducible first | exact HB.out | apply below_alloc | apply pw_below_drewN | apply below_drew1) | exact HB.out)) hb); clear HB; have HB := n0_; clear n0_; (try clear hb); (try clear hb2); (try clear hk); (try clear hi)))
        go_ret
        exact ⟨by first | rfl | (simp [errW_none, errW_some] <;> rfl) | (simp [*, errW_none, errW_some] <;> rfl), by repeat (first | (with_reducible first | exact HB.out | apply below_alloc | apply pw_below_drewN | apply below_drew1) | exact HB.out)⟩
      · replace c7 := Bool.eq_false_iff.mpr c7
        subst c7
        have H1 : ((pack_Put.f kj4 ([] : List Int) a0).bind fun t238 => ((pack_Get.f kj4 t238).bind fun bt241 => ((oriellaw01_No.f bt241.2.2).bind fun t244 => (if t244 = 0 then (if bt241.1 = a0 then ((pack_Put.f kj4 ([] : List Int) a0).bind fun t245 => (if bt241.2.1 = (t245.length : Int) then ((pack_Zig.f a1).bind fun t248 => ((pack_Zag.f t248).bind fun t249 => (if t249 = a1 then ((pack_Zig.f a1).bind fun t250 => ((orielref03_Zig.f a1).bind fun t251 => (if t248 = t251 then ((pack_Zag.f a0).bind fun t252 => ((pack_Zig.f t252).bind fun t253 => (oriellaw03_PackBack.j1 kj4 l2 l3 (t253 != a0)))) else (none)))) else (none)))) else (none))) else (none)) else (none))))) = some r := by rw [if_neg (show ¬ (false = true) by decide)] at H; exact H
        clear H
        have H := H1
        clear H1
        replace H := Option.bind_eq_some_iff.mp H
        obtain ⟨t238, A100, H⟩ := H
        replace H : ((pack_Get.f kj4 t238).bind fun bt241 => ((oriellaw01_No.f bt241.2.2).bind fun t244 => (if t244 = 0 then (if bt241.1 = a0 then ((pack_Put.f kj4 ([] : List Int) a0).bind fun t245 => (if bt241.2.1 = (t245.length : Int) then ((pack_Zig.f a1).bind fun t248 => ((pack_Zag.f t248).bind fun t249 => (if t249 = a1 then ((pack_Zig.f a1).bind fun t250 => ((orielref03_Zig.f a1).bind fun t251 => (if t248 = t251 then ((pack_Zag.f a0).bind fun t252 => ((pack_Zig.f t252).bind fun t253 => (oriellaw03_PackBack.j1 kj4 l2 l3 (t253 != a0)))) else (none)))) else (none)))) else (none))) else (none)) else (none)))) = some r := H
        have A10 := Aside0.mk A100
        clear A100
        replace H := Option.bind_eq_some_iff.mp H
        obtain ⟨⟨t241, t242, t243⟩, A110, H⟩ := H
        replace H : ((oriellaw01_No.f t243).bind fun t244 => (if t244 = 0 then (if t241 = a0 then ((pack_Put.f kj4 ([] : List Int) a0).bind fun t245 => (if t242 = (t245.length : Int) then ((pack_Zig.f a1).bind fun t248 => ((pack_Zag.f t248).bind fun t249 => (if t249 = a1 then ((pack_Zig.f a1).bind fun t250 => ((orielref03_Zig.f a1).bind fun t251 => (if t248 = t251 then ((pack_Zag.f a0).bind fun t252 => ((pack_Zig.f t252).bind fun t253 => (oriellaw03_PackBack.j1 kj4 l2 l3 (t253 != a0)))) else (none)))) else (none)))) else (none))) else (none)) else (none))) = some r := H
        have A11 := Aside0.mk A110
        clear A110
        have HC12 := Aside0.mk H
        clear H
        go_upto_region 4 with (first | ((with_reducible refine gate_callee (f := 16) rfl ?_); refine goesL_ (some 27) rfl rfl Tryd.func16 (by kernel_rfl) rfl #[.slice none 0 0, .int .u64 a0] rfl (by (try simp only [List.map_toArray, List.map_cons, List.map_nil]); first | done | rfl | (simp only [List.length_drop, List.length_take]; rfl)) ?_; (refine (pack_Put.calls kj4 _ _ ([] : List Int) a0 t238 _ ?side1 ?side2 A10.out).mono ?_); (case side1 => exact Kd.C_nil _ _); (case side2 => exact Nat.le_refl _); rintro e w13 ⟨v239, rfl, ho0, hb⟩; refine ⟨_, rfl, ?_⟩; have n0_ := Aside0.mk (Kd.R_lower ho0 (below_size (by repeat (first | (with_reducible first | exact HB.out | apply below_alloc | apply pw_below_drewN | apply below_drew1) | exact HB.out)))); have n1_ := Aside0.mk (below_step (by repeat (first | (with_reducible first | exact HB.out | apply below_alloc | apply pw_below_drewN | apply below_drew1) | exact HB.out)) hb); clear HB; have HO240 := n0_; have HB := n1_; clear n0_ n1_; (try clear hb); (try clear hb2); (try clear hk); (try clear hi); (try clear ho0); obtain ⟨Ao14, co14, eo14⟩ := Kd.R_slice HO240.out; subst eo14) | ((with_reducible refine gate_callee (f := 19) rfl ?_); refine goesL_ (some 28) rfl rfl Tryd.func19 (by kernel_rfl) rfl #[.slice Ao14 t238.length co14] rfl (by (try simp only [List.map_toArray, List.map_cons, List.map_nil]); first | done | rfl | (simp only [List.length_drop, List.length_take]; rfl)) ?_; (with_reducible refine (pack_Get.calls kj4 _ _ t238 t241 t242 t243 _ ?side1 ?side2 A11.out).mono ?_); (case side1 => repeat (first | exact (Kd.R_reads' HO240.out).2.2 | (with_reducible refine Kd.C_alloc ?_ _) | (with_reducible refine Kd.C_drewN ?_ _) | (with_reducible refine Kd.C_drew ?_))); (case side2 => exact (Kd.R_reads' HO240.out).2.1); rintro e w' ⟨rfl, ⟨nd, rfl⟩⟩; refine ⟨_, rfl, ?_⟩))
        (try simp only [Act.put, List.setIfInBounds_toArray, List.set_cons_zero, List.set_cons_succ])
        go_cut [67] (fun v67 wc => ∃ (kq : Nat) (x67_11 : Bool), v67 = .bool x67_11 ∧ Aside0 (oriellaw03_PackBack.j1 kq l2 l3 x67_11 = some r) ∧ Aside0 (kq ≤ kj4) ∧ Aside0 (Below w.heap.size w wc))
        case first =>
          have H := HC12.out
          clear HC12
          replace H := Option.bind_eq_some_iff.mp H
          obtain ⟨t244, A150, H⟩ := H
          replace H : (if t244 = 0 then (if t241 = a0 then ((pack_Put.f kj4 ([] : List Int) a0).bind fun t245 => (if t242 = (t245.length : Int) then ((pack_Zig.f a1).bind fun t248 => ((pack_Zag.f t248).bind fun t249 => (if t249 = a1 then ((pack_Zig.f a1).bind fun t250 => ((orielref03_Zig.f a1).bind fun t251 => (if t248 = t251 then ((pack_Zag.f a0).bind fun t252 => ((pack_Zig.f t252).bind fun t253 => (oriellaw03_PackBack.j1 kj4 l2 l3 (t253 != a0)))) else (none)))) else (none)))) else (none))) else (none)) else (none)) = some r := H
          have A15 := Aside0.mk A150
          clear A150
          by_cases c16 : t244 = 0
          · rw [if_pos c16] at H
            have c16b0 : (t244 == 0) = true := beq_iff_eq.mpr c16
            have c16b1 : (t244 != 0) = false := bne_eq_false_iff_eq.mpr c16
            clear c16
            (first | rw [c16b0] | (simp only [i64_w, i32_w]; rw [c16b0]) | skip)
            by_cases c17 : t241 = a0
            · rw [if_pos c17] at H
              have c17b0 : (t241 == a0) = true := beq_iff_eq.mpr c17
              have c17b1 : (t241 != a0) = false := bne_eq_false_iff_eq.mpr c17
              clear c17
              replace H := Option.bind_eq_some_iff.mp H
              obtain ⟨t245, A180, H⟩ := H
              replace H : (if t242 = (t245.length : Int) then ((pack_Zig.f a1).bind fun t248 => ((pack_Zag.f t248).bind fun t249 => (if t249 = a1 then ((pack_Zig.f a1).bind fun t250 => ((orielref03_Zig.f a1).bind fun t251 => (if t248 = t251 then ((pack_Zag.f a0).bind fun t252 => ((pack_Zig.f t252).bind fun t253 => (oriellaw03_PackBack.j1 kj4 l2 l3 (t253 != a0)))) else (none)))) else (none)))) else (none)) = some r := H
              have A18 := Aside0.mk A180
              clear A180
              by_cases c19 : t242 = (t245.length : Int)
              · rw [if_pos c19] at H
                have c19b0 : (t242 == (t245.length : Int)) = true := beq_iff_eq.mpr c19
                have c19b1 : (t242 != (t245.length : Int)) = false := bne_eq_false_iff_eq.mpr c19
                clear c19
                replace H := Option.bind_eq_some_iff.mp H
                obtain ⟨t248, A200, H⟩ := H
                replace H : ((pack_Zag.f t248).bind fun t249 => (if t249 = a1 then ((pack_Zig.f a1).bind fun t250 => ((orielref03_Zig.f a1).bind fun t251 => (if t248 = t251 then ((pack_Zag.f a0).bind fun t252 => ((pack_Zig.f t252).bind fun t253 => (oriellaw03_PackBack.j1 kj4 l2 l3 (t253 != a0)))) else (none)))) else (none))) = some r := H
                have A20 := Aside0.mk A200
                clear A200
                replace H := Option.bind_eq_some_iff.mp H
                obtain ⟨t249, A210, H⟩ := H
                replace H : (if t249 = a1 then ((pack_Zig.f a1).bind fun t250 => ((orielref03_Zig.f a1).bind fun t251 => (if t248 = t251 then ((pack_Zag.f a0).bind fun t252 => ((pack_Zig.f t252).bind fun t253 => (oriellaw03_PackBack.j1 kj4 l2 l3 (t253 != a0)))) else (none)))) else (none)) = some r := H
                have A21 := Aside0.mk A210
                clear A210
                by_cases c22 : t249 = a1
                · rw [if_pos c22] at H
                  have c22b0 : (t249 == a1) = true := beq_iff_eq.mpr c22
                  have c22b1 : (t249 != a1) = false := bne_eq_false_iff_eq.mpr c22
                  clear c22
                  replace H := Option.bind_eq_some_iff.mp H
                  obtain ⟨t250, A230, H⟩ := H
                  replace H : ((orielref03_Zig.f a1).bind fun t251 => (if t248 = t251 then ((pack_Zag.f a0).bind fun t252 => ((pack_Zig.f t252).bind fun t253 => (oriellaw03_PackBack.j1 kj4 l2 l3 (t253 != a0)))) else (none))) = some r := H
                  clear A230
                  replace H := Option.bind_eq_some_iff.mp H
                  obtain ⟨t251, A240, H⟩ := H
                  replace H : (if t248 = t251 then ((pack_Zag.f a0).bind fun t252 => ((pack_Zig.f t252).bind fun t253 => (oriellaw03_PackBack.j1 kj4 l2 l3 (t253 != a0)))) else (none)) = some r := H
                  have A24 := Aside0.mk A240
                  clear A240
                  by_cases c25 : t248 = t251
                  · rw [if_pos c25] at H
                    have c25b0 : (t248 == t251) = true := beq_iff_eq.mpr c25
                    have c25b1 : (t248 != t251) = false := bne_eq_false_iff_eq.mpr c25
                    clear c25
                    replace H := Option.bind_eq_some_iff.mp H
                    obtain ⟨t252, A260, H⟩ := H
                    replace H : ((pack_Zig.f t252).bind fun t253 => (oriellaw03_PackBack.j1 kj4 l2 l3 (t253 != a0))) = some r := H
                    have A26 := Aside0.mk A260
                    clear A260
                    replace H := Option.bind_eq_some_iff.mp H
                    obtain ⟨t253, A270, H⟩ := H
                    replace H : (oriellaw03_PackBack.j1 kj4 l2 l3 (t253 != a0)) = some r := H
                    have A27 := Aside0.mk A270
                    clear A270
                    have H' := Aside0.mk H
                    clear H
                    go_wp2_with (first | ((with_reducible refine gate_callee (f := 11) rfl ?_); refine goesL_ (some 33) rfl rfl Tryd.func11 (by kernel_rfl) rfl #[.int .i64 t243] rfl (by (try simp only [List.map_toArray, List.map_cons, List.map_nil]); first | done | rfl | (simp only [List.length_drop, List.length_take]; rfl)) ?_; (with_reducible refine (oriellaw01_No.calls t243 t244 _ A15.out).mono ?_); rintro e w' ⟨rfl, ⟨nd, rfl⟩⟩; refine ⟨_, rfl, ?_⟩) | (go_at_call 16; (refine (pack_Put.calls kj4 _ _ ([] : List Int) a0 t245 _ ?side1 ?side2 A18.out).mono ?_); (case side1 => exact Kd.C_nil _ _); (case side2 => exact Nat.le_refl _); rintro e w28 ⟨v246, rfl, ho0, hb⟩; have n0_ := Aside0.mk (Kd.R_elder' (by (with_reducible repeat (first | apply Kd.R_alloc | apply Kd.R_drewN | apply Kd.R_drew)); exact HO240.out) (Kd.R_base ho0) hb); have n1_ := Aside0.mk (Kd.R_lower (Kd.R_new' ho0 (Kd.R_lt (by (with_reducible repeat (first | apply Kd.R_alloc | apply Kd.R_drewN | apply Kd.R_drew)); exact HO240.out))) (below_size (by repeat (first | (with_reducible first | exact HB.out | apply below_alloc | apply pw_below_drewN | apply below_drew1) | exact HB.out)))); have n2_ := Aside0.mk (below_step (by repeat (first | (with_reducible first | exact HB.out | apply below_alloc | apply pw_below_drewN | apply below_drew1) | exact HB.out)) hb); clear HO240; clear HB; have HO240 := n0_; have HO247 := n1_; have HB := n2_; clear n0_ n1_ n2_; (try clear hb); (try clear hb2); (try clear hk); (try clear hi); (try clear ho0); obtain ⟨Ao29, co29, eo29⟩ := Kd.R_slice HO247.out; subst eo29) | (go_at_call 34; (with_reducible refine (pack_Zig.calls a1 t248 _ A20.out).mono ?_); rintro e w' ⟨rfl, ⟨nd, rfl⟩⟩) | (go_at_call 33; (with_reducible refine (pack_Zag.calls t248 t249 _ A21.out).mono ?_); rintro e w' ⟨rfl, ⟨nd, rfl⟩⟩) | (go_at_call 35; (with_reducible refine (orielref03_Zig.calls a1 t251 _ A24.out).mono ?_); rintro e w' ⟨rfl, ⟨nd, rfl⟩⟩) | (go_at_call 33; (with_reducible refine (pack_Zag.calls a0 t252 _ A26.out).mono ?_); rintro e w' ⟨rfl, ⟨nd, rfl⟩⟩) | (go_at_call 34; (with_reducible refine (pack_Zig.calls t252 t253 _ A27.out).mono ?_); rintro e w' ⟨rfl, ⟨nd, rfl⟩⟩))
                    go_meet
                    case rel => exact ⟨_, ((t253 != a0)), (by first | rfl | (simp; done) | (simp [*]; done)), H', ⟨by have := HJ4.out; first | omega | exact Nat.le_refl _⟩, ⟨by repeat (first | (with_reducible first | exact HB.out | apply below_alloc | apply pw_below_drewN | apply below_drew1) | exact HB.out)⟩⟩
                  · rw [if_neg c25] at H
                    exact absurd H (by simp)
                · rw [if_neg c22] at H
                  exact absurd H (by simp)
              · rw [if_neg c19] at H
                exact absurd H (by simp)
            · rw [if_neg c17] at H
              exact absurd H (by simp)
          · rw [if_neg c16] at H
            exact absurd H (by simp)
        case rest =>
          clear HC12
          try clear c1
          try clear c2
          try clear p2
          try clear c3
          try clear c6
          try clear c6b0
          try clear c6b1
          try clear c7
          try clear c8
          try clear c11
          try clear c12
          try clear c16
          try clear c16b0
          try clear c16b1
          try clear c17
          try clear c17b0
          try clear c17b1
          try clear c19
          try clear c19b0
          try clear c19b1
          try clear c22
          try clear c22b0
          try clear c22b1
          try clear c25
          try clear c25b0
          try clear c25b1
          try clear p2
          obtain ⟨kq, x67_11, rfl, HA, HJ11, HB⟩ := hcut
          cases kq with
          | zero => exact absurd HA.out (by simp [oriellaw03_PackBack.j1])
          | succ kj11 =>
            have H := HA.out
            clear HA
            simp only [oriellaw03_PackBack.j1] at H
            by_cases c30 : x67_11 = true
            · subst c30
              have H1 : (none) = some r := by rw [if_pos rfl] at H; exact H
              clear H
              have H := H1
              clear H1
              exact absurd H (by simp)
            · replace c30 := Bool.eq_false_iff.mpr c30
              subst c30
              have H1 : ((pack_Bytes.f kj11 l2).bind fun t254 => ((pack_Bytes.f kj11 l3).bind fun t257 => ((pack_Ints.f kj11 t254).bind fun bt260 => ((oriellaw01_No.f bt260.2).bind fun t264 => (if t264 = 0 then ((oriellaw01_Ints.f kj11 bt260.1 l2).bind fun t265 => (if t265 = true then ((orielref03_Equal.f t254 t257).bind fun t266 => ((oriellaw01_Ints.f kj11 l2 l3).bind fun t267 => (if (t266 == t267) = true then ((oriellaw03_alive.f kj11).bind fun t268 => (some t268)) else (none)))) else (none))) else (none)))))) = some r := by rw [if_neg (show ¬ (false = true) by decide)] at H; exact H
              clear H
              have H := H1
              clear H1
              replace H := Option.bind_eq_some_iff.mp H
              obtain ⟨t254, A310, H⟩ := H
              replace H : ((pack_Bytes.f kj11 l3).bind fun t257 => ((pack_Ints.f kj11 t254).bind fun bt260 => ((oriellaw01_No.f bt260.2).bind fun t264 => (if t264 = 0 then ((oriellaw01_Ints.f kj11 bt260.1 l2).bind fun t265 => (if t265 = true then ((orielref03_Equal.f t254 t257).bind fun t266 => ((oriellaw01_Ints.f kj11 l2 l3).bind fun t267 => (if (t266 == t267) = true then ((oriellaw03_alive.f kj11).bind fun t268 => (some t268)) else (none)))) else (none))) else (none))))) = some r := H
              have A31 := Aside0.mk A310
              clear A310
              replace H := Option.bind_eq_some_iff.mp H
              obtain ⟨t257, A320, H⟩ := H
              replace H : ((pack_Ints.f kj11 t254).bind fun bt260 => ((oriellaw01_No.f bt260.2).bind fun t264 => (if t264 = 0 then ((oriellaw01_Ints.f kj11 bt260.1 l2).bind fun t265 => (if t265 = true then ((orielref03_Equal.f t254 t257).bind fun t266 => ((oriellaw01_Ints.f kj11 l2 l3).bind fun t267 => (if (t266 == t267) = true then ((oriellaw03_alive.f kj11).bind fun t268 => (some t268)) else (none)))) else (none))) else (none)))) = some r := H
              have A32 := Aside0.mk A320
              clear A320
              replace H := Option.bind_eq_some_iff.mp H
              obtain ⟨⟨t260, t261⟩, A330, H⟩ := H
              replace H : ((oriellaw01_No.f t261).bind fun t264 => (if t264 = 0 then ((oriellaw01_Ints.f kj11 t260 l2).bind fun t265 => (if t265 = true then ((orielref03_Equal.f t254 t257).bind fun t266 => ((oriellaw01_Ints.f kj11 l2 l3).bind fun t267 => (if (t266 == t267) = true then ((oriellaw03_alive.f kj11).bind fun t268 => (some t268)) else (none)))) else (none))) else (none))) = some r := H
              have A33 := Aside0.mk A330
              clear A330
              replace H := Option.bind_eq_some_iff.mp H
              obtain ⟨t264, A340, H⟩ := H
              replace H : (if t264 = 0 then ((oriellaw01_Ints.f kj11 t260 l2).bind fun t265 => (if t265 = true then ((orielref03_Equal.f t254 t257).bind fun t266 => ((oriellaw01_Ints.f kj11 l2 l3).bind fun t267 => (if (t266 == t267) = true then ((oriellaw03_alive.f kj11).bind fun t268 => (some t268)) else (none)))) else (none))) else (none)) = some r := H
              have A34 := Aside0.mk A340
              clear A340
              by_cases c35 : t264 = 0
              · rw [if_pos c35] at H
                have c35b0 : (t264 == 0) = true := beq_iff_eq.mpr c35
                have c35b1 : (t264 != 0) = false := bne_eq_false_iff_eq.mpr c35
                clear c35
                replace H := Option.bind_eq_some_iff.mp H
                obtain ⟨t265, A360, H⟩ := H
                replace H : (if t265 = true then ((orielref03_Equal.f t254 t257).bind fun t266 => ((oriellaw01_Ints.f kj11 l2 l3).bind fun t267 => (if (t266 == t267) = true then ((oriellaw03_alive.f kj11).bind fun t268 => (some t268)) else (none)))) else (none)) = some r := H
                have A36 := Aside0.mk A360
                clear A360
                by_cases c37 : t265 = true
                · subst c37
                  have H1 : ((orielref03_Equal.f t254 t257).bind fun t266 => ((oriellaw01_Ints.f kj11 l2 l3).bind fun t267 => (if (t266 == t267) = true then ((oriellaw03_alive.f kj11).bind fun t268 => (some t268)) else (none)))) = some r := by rw [if_pos rfl] at H; exact H
                  clear H
                  have H := H1
                  clear H1
                  replace H := Option.bind_eq_some_iff.mp H
                  obtain ⟨t266, A380, H⟩ := H
                  replace H : ((oriellaw01_Ints.f kj11 l2 l3).bind fun t267 => (if (t266 == t267) = true then ((oriellaw03_alive.f kj11).bind fun t268 => (some t268)) else (none))) = some r := H
                  have A38 := Aside0.mk A380
                  clear A380
                  replace H := Option.bind_eq_some_iff.mp H
                  obtain ⟨t267, A390, H⟩ := H
                  replace H : (if (t266 == t267) = true then ((oriellaw03_alive.f kj11).bind fun t268 => (some t268)) else (none)) = some r := H
                  have A39 := Aside0.mk A390
                  clear A390
                  by_cases c40 : (t266 == t267) = true
                  · rw [if_pos c40] at H
                    have c40b0 : (t266 == t267) = true := c40
                    (try (have c40b1 : decide (t266 = t267) = true := by simpa using c40))
                    (try (have c40b2 : (t266 == t267) = true := by simpa using c40))
                    clear c40
                    replace H := Option.bind_eq_some_iff.mp H
                    obtain ⟨t268, A410, H⟩ := H
                    replace H : (some t268) = some r := H
                    have A41 := Aside0.mk A410
                    clear A410
                    obtain rfl := Option.some.inj H
                    go_wp2_with (first | ((with_reducible refine gate_callee (f := 36) rfl ?_); refine goesL_ (some 69) rfl rfl Tryd.func36 (by kernel_rfl) rfl #[.slice A2 l2.length c2] rfl (by (try simp only [List.map_toArray, List.map_cons, List.map_nil]); first | done | rfl | (simp only [List.length_drop, List.length_take]; rfl)) ?_; (with_reducible refine (pack_Bytes.calls kj11 _ _ l2 t254 _ ?side1 ?side2 A31.out).mono ?_); (case side1 => repeat (first | exact (Kd.C_below HR2.out HB.out) | (with_reducible refine Kd.C_alloc ?_ _) | (with_reducible refine Kd.C_drewN ?_ _) | (with_reducible refine Kd.C_drew ?_))); (case side2 => exact HC2.out); rintro e w42 ⟨v255, rfl, ho0, hb⟩; refine ⟨_, rfl, ?_⟩; have n0_ := Aside0.mk (Kd.R_lower ho0 (below_size (by repeat (first | (with_reducible first | exact HB.out | apply below_alloc | apply pw_below_drewN | apply below_drew1) | exact HB.out)))); have n1_ := Aside0.mk (below_step (by repeat (first | (with_reducible first | exact HB.out | apply below_alloc | apply pw_below_drewN | apply below_drew1) | exact HB.out)) hb); clear HB; have HO256 := n0_; have HB := n1_; clear n0_ n1_; (try clear hb); (try clear hb2); (try clear hk); (try clear hi); (try clear ho0)) | ((with_reducible refine gate_callee (f := 36) rfl ?_); refine goesL_ (some 71) rfl rfl Tryd.func36 (by kernel_rfl) rfl #[.slice A3 l3.length c3] rfl (by (try simp only [List.map_toArray, List.map_cons, List.map_nil]); first | done | rfl | (simp only [List.length_drop, List.length_take]; rfl)) ?_; (with_reducible refine (pack_Bytes.calls kj11 _ _ l3 t257 _ ?side1 ?side2 A32.out).mono ?_); (case side1 => repeat (first | exact (Kd.C_below HR3.out HB.out) | (with_reducible refine Kd.C_alloc ?_ _) | (with_reducible refine Kd.C_drewN ?_ _) | (with_reducible refine Kd.C_drew ?_))); (case side2 => exact HC3.out); rintro e w43 ⟨v258, rfl, ho0, hb⟩; refine ⟨_, rfl, ?_⟩; have n0_ := Aside0.mk (Kd.R_elder' (by (with_reducible repeat (first | apply Kd.R_alloc | apply Kd.R_drewN | apply Kd.R_drew)); exact HO256.out) (Kd.R_base ho0) hb); have n1_ := Aside0.mk (Kd.R_lower (Kd.R_new' ho0 (Kd.R_lt (by (with_reducible repeat (first | apply Kd.R_alloc | apply Kd.R_drewN | apply Kd.R_drew)); exact HO256.out))) (below_size (by repeat (first | (with_reducible first | exact HB.out | apply below_alloc | apply pw_below_drewN | apply below_drew1) | exact HB.out)))); have n2_ := Aside0.mk (below_step (by repeat (first | (with_reducible first | exact HB.out | apply below_alloc | apply pw_below_drewN | apply below_drew1) | exact HB.out)) hb); clear HO256; clear HB; have HO256 := n0_; have HO259 := n1_; have HB := n2_; clear n0_ n1_ n2_; (try clear hb); (try clear hb2); (try clear hk); (try clear hi); (try clear ho0); obtain ⟨Ao44, co44, eo44⟩ := Kd.R_slice HO256.out; subst eo44) | ((with_reducible refine gate_callee (f := 37) rfl ?_); refine goesL_ (some 74) rfl rfl Tryd.func37 (by kernel_rfl) rfl #[.slice Ao44 t254.length co44] rfl (by (try simp only [List.map_toArray, List.map_cons, List.map_nil]); first | done | rfl | (simp only [List.length_drop, List.length_take]; rfl)) ?_; (with_reducible refine (pack_Ints.calls kj11 _ _ t254 t260 t261 _ ?side1 ?side2 A33.out).mono ?_); (case side1 => repeat (first | exact (Kd.R_reads' HO256.out).2.2 | (with_reducible refine Kd.C_alloc ?_ _) | (with_reducible refine Kd.C_drewN ?_ _) | (with_reducible refine Kd.C_drew ?_))); (case side2 => exact (Kd.R_reads' HO256.out).2.1); rintro e w45 ⟨v262, rfl, ho0, hb⟩; refine ⟨_, rfl, ?_⟩; have n0_ := Aside0.mk (Kd.R_below (by (with_reducible repeat (first | apply Kd.R_alloc | apply Kd.R_drewN | apply Kd.R_drew)); exact HO256.out) hb); have n1_ := Aside0.mk (Kd.R_below (by (with_reducible repeat (first | apply Kd.R_alloc | apply Kd.R_drewN | apply Kd.R_drew)); exact HO259.out) hb); have n2_ := Aside0.mk (Kd.R_lower ho0 (below_size (by repeat (first | (with_reducible first | exact HB.out | apply below_alloc | apply pw_below_drewN | apply below_drew1) | exact HB.out)))); have n3_ := Aside0.mk (below_step (by repeat (first | (with_reducible first | exact HB.out | apply below_alloc | apply pw_below_drewN | apply below_drew1) | exact HB.out)) hb); clear HO256; clear HO259; clear HB; have HO256 := n0_; have HO259 := n1_; have HO263 := n2_; have HB := n3_; clear n0_ n1_ n2_ n3_; (try clear hb); (try clear hb2); (try clear hk); (try clear hi); (try clear ho0)) | ((with_reducible refine gate_callee (f := 11) rfl ?_); refine goesL_ (some 78) rfl rfl Tryd.func11 (by kernel_rfl) rfl #[.int .i64 t261] rfl (by (try simp only [List.map_toArray, List.map_cons, List.map_nil]); first | done | rfl | (simp only [List.length_drop, List.length_take]; rfl)) ?_; (with_reducible refine (oriellaw01_No.calls t261 t264 _ A34.out).mono ?_); rintro e w' ⟨rfl, ⟨nd, rfl⟩⟩; refine ⟨_, rfl, ?_⟩; obtain ⟨Ao46, co46, eo46⟩ := Kd.R_slice HO263.out; subst eo46) | (go_at_call 22; (with_reducible refine (oriellaw01_Ints.calls kj11 _ _ t260 _ _ l2 true _ ?side1 ?side2 ?side3 ?side4 A36.out).mono ?_); (case side1 => repeat (first | exact (Kd.R_reads' HO263.out).2.2 | (with_reducible refine Kd.C_alloc ?_ _) | (with_reducible refine Kd.C_drewN ?_ _) | (with_reducible refine Kd.C_drew ?_))); (case side2 => exact (Kd.R_reads' HO263.out).2.1); (case side3 => repeat (first | exact (Kd.C_below HR2.out (by repeat (first | (with_reducible first | exact HB.out | apply below_alloc | apply pw_below_drewN | apply below_drew1) | exact HB.out))) | (with_reducible refine Kd.C_alloc ?_ _) | (with_reducible refine Kd.C_drewN ?_ _) | (with_reducible refine Kd.C_drew ?_))); (case side4 => exact HC2.out); rintro e w' ⟨rfl, ⟨nd, rfl⟩⟩; obtain ⟨Ao47, co47, eo47⟩ := Kd.R_slice HO259.out; subst eo47) | (go_at_call 17; (with_reducible refine (orielref03_Equal.calls _ _ t254 _ _ t257 t266 _ ?side1 ?side2 ?side3 ?side4 A38.out).mono ?_); (case side1 => repeat (first | exact (Kd.R_reads' HO256.out).2.2 | (with_reducible refine Kd.C_alloc ?_ _) | (with_reducible refine Kd.C_drewN ?_ _) | (with_reducible refine Kd.C_drew ?_))); (case side2 => exact (Kd.R_reads' HO256.out).2.1); (case side3 => repeat (first | exact (Kd.R_reads' HO259.out).2.2 | (with_reducible refine Kd.C_alloc ?_ _) | (with_reducible refine Kd.C_drewN ?_ _) | (with_reducible refine Kd.C_drew ?_))); (case side4 => exact (Kd.R_reads' HO259.out).2.1); rintro e w' ⟨rfl, ⟨nd, rfl⟩⟩) | (go_at_call 22; (with_reducible refine (oriellaw01_Ints.calls kj11 _ _ l2 _ _ l3 t267 _ ?side1 ?side2 ?side3 ?side4 A39.out).mono ?_); (case side1 => repeat (first | exact (Kd.C_below HR2.out (by repeat (first | (with_reducible first | exact HB.out | apply below_alloc | apply pw_below_drewN | apply below_drew1) | exact HB.out))) | (with_reducible refine Kd.C_alloc ?_ _) | (with_reducible refine Kd.C_drewN ?_ _) | (with_reducible refine Kd.C_drew ?_))); (case side2 => exact HC2.out); (case side3 => repeat (first | exact (Kd.C_below HR3.out (by repeat (first | (with_reducible first | exact HB.out | apply below_alloc | apply pw_below_drewN | apply below_drew1) | exact HB.out))) | (with_reducible refine Kd.C_alloc ?_ _) | (with_reducible refine Kd.C_drewN ?_ _) | (with_reducible refine Kd.C_drew ?_))); (case side4 => exact HC3.out); rintro e w' ⟨rfl, ⟨nd, rfl⟩⟩) | (go_at_call 12; (with_reducible refine (oriellaw03_alive.calls kj11  t268 _ ?sideT A41.out).mono ?_); (case sideT => first | exact HT.out | exact TabW.below HT.out (by repeat (first | (with_reducible first | exact HB.out | apply below_alloc | apply pw_below_drewN | apply below_drew1) | exact HB.out))); rintro e w48 ⟨rfl, hb⟩; have n0_ := Aside0.mk (Kd.R_below (by (with_reducible repeat (first | apply Kd.R_alloc | apply Kd.R_drewN | apply Kd.R_drew)); exact HO256.out) hb); have n1_ := Aside0.mk (Kd.R_below (by (with_reducible repeat (first | apply Kd.R_alloc | apply Kd.R_drewN | apply Kd.R_drew)); exact HO259.out) hb); have n2_ := Aside0.mk (Kd.R_below (by (with_reducible repeat (first | apply Kd.R_alloc | apply Kd.R_drewN | apply Kd.R_drew)); exact HO263.out) hb); have n3_ := Aside0.mk (below_step (by repeat (first | (with_reducible first | exact HB.out | apply below_alloc | apply pw_below_drewN | apply below_drew1) | exact HB.out)) hb); clear HO256; clear HO259; clear HO263; clear HB; have HO256 := n0_; have HO259 := n1_; have HO263 := n2_; have HB := n3_; clear n0_ n1_ n2_ n3_; (try clear hb); (try clear hb2); (try clear hk); (try clear hi)))
                    go_ret
                    exact ⟨by first | rfl | (simp [errW_none, errW_some] <;> rfl) | (simp [*, errW_none, errW_some] <;> rfl), by repeat (first | (with_reducible first | exact HB.out | apply below_alloc | apply pw_below_drewN | apply below_drew1) | exact HB.out)⟩
                  · rw [if_neg c40] at H
                    exact absurd H (by simp)
                · replace c37 := Bool.eq_false_iff.mpr c37
                  subst c37
                  have H1 : (none) = some r := by rw [if_neg (show ¬ (false = true) by decide)] at H; exact H
                  clear H
                  have H := H1
                  clear H1
                  exact absurd H (by simp)
              · rw [if_neg c35] at H
                exact absurd H (by simp)

end Go.Proofs.YtjekpecobkaaoaaDoor.PAll
