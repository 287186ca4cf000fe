-- Written by ownprint.py, a program of this session (out of the kit's print, with contracts of the session's own).
import Derived.Test.YtnemooemifbbhaaDoorPDTx0
import Derived.Test.YtnemooemifbbhaaDoorPDTx18
import Derived.Test.YtnemooemifbbhaaDoorPDTx19
import Derived.Test.YtnemooemifbbhaaDoorPDTx22
import Derived.Test.YtnemooemifbbhaaDoorPDTx24
namespace Go.Proofs.YtnemooemifbbhaaDoor.PDT
open Go.RowKit Go.Proofs.YtnemooemifbbhaaDoorW.PrintWords Go.Proofs.YtnemooemifbbhaaDoorW.PrintLast Go.Proofs.YtnemooemifbbhaaDoorW.PrintMore
attribute [local go_sem] max2_int min2_int max_two min_two max_three min_three max_four min_four   -- for this text's walks alone
set_option linter.unusedVariables false
set_option linter.unusedSimpArgs false
/-! ### orielref27_Read: function 27 -/
mutual
def orielref27_Read.l0 : Nat → List ByteArray → List (S56) → Int → Option ((List (S56)) × Bool)
 | 0, _, _, _ => none
 | k + 1, x4, x5, x6 => if x6 < (x4.length : Int) then (if 0 ≤ x6 then (if 0 ≤ (wrap64 (((rdOf ByteArray.empty x4 x6).size : Int) - 1)) then (if (wrap64 (((rdOf ByteArray.empty x4 x6).size : Int) - 1)) < ((rdOf ByteArray.empty x4 x6).size : Int) then (if (bt (rdOf ByteArray.empty x4 x6) (wrap64 (((rdOf ByteArray.empty x4 x6).size : Int) - 1))) = 10 then (if (wrap64 (((rdOf ByteArray.empty x4 x6).size : Int) - 1)) ≤ ((rdOf ByteArray.empty x4 x6).size : Int) then ((orielref27_blank.f k ((rdOf ByteArray.empty x4 x6).extract 0 ((wrap64 (((rdOf ByteArray.empty x4 x6).size : Int) - 1)) : Int).toNat)).bind fun t222 => (if t222 < 0 then (some (([] : List (S56)), false)) else (if 0 ≤ (wrap64 (t222 + 1)) then (if (wrap64 (t222 + 1)) ≤ (((rdOf ByteArray.empty x4 x6).extract 0 ((wrap64 (((rdOf ByteArray.empty x4 x6).size : Int) - 1)) : Int).toNat).size : Int) then ((orielref27_blank.f k (((rdOf ByteArray.empty x4 x6).extract 0 ((wrap64 (((rdOf ByteArray.empty x4 x6).size : Int) - 1)) : Int).toNat).extract ((wrap64 (t222 + 1)) : Int).toNat ((rdOf ByteArray.empty x4 x6).extract 0 ((wrap64 (((rdOf ByteArray.empty x4 x6).size : Int) - 1)) : Int).toNat).size)).bind fun t223 => (if t223 < 0 then (some (([] : List (S56)), false)) else (if 0 ≤ (wrap64 (t223 + 1)) then (if (wrap64 (t223 + 1)) ≤ ((((rdOf ByteArray.empty x4 x6).extract 0 ((wrap64 (((rdOf ByteArray.empty x4 x6).size : Int) - 1)) : Int).toNat).extract ((wrap64 (t222 + 1)) : Int).toNat ((rdOf ByteArray.empty x4 x6).extract 0 ((wrap64 (((rdOf ByteArray.empty x4 x6).size : Int) - 1)) : Int).toNat).size).size : Int) then ((orielref26_Unquote.f k ((((rdOf ByteArray.empty x4 x6).extract 0 ((wrap64 (((rdOf ByteArray.empty x4 x6).size : Int) - 1)) : Int).toNat).extract ((wrap64 (t222 + 1)) : Int).toNat ((rdOf ByteArray.empty x4 x6).extract 0 ((wrap64 (((rdOf ByteArray.empty x4 x6).size : Int) - 1)) : Int).toNat).size).extract ((wrap64 (t223 + 1)) : Int).toNat (((rdOf ByteArray.empty x4 x6).extract 0 ((wrap64 (((rdOf ByteArray.empty x4 x6).size : Int) - 1)) : Int).toNat).extract ((wrap64 (t222 + 1)) : Int).toNat ((rdOf ByteArray.empty x4 x6).extract 0 ((wrap64 (((rdOf ByteArray.empty x4 x6).size : Int) - 1)) : Int).toNat).size).size)).bind fun bt224 => (if 0 ≤ t222 then (if t222 ≤ (((rdOf ByteArray.empty x4 x6).extract 0 ((wrap64 (((rdOf ByteArray.empty x4 x6).size : Int) - 1)) : Int).toNat).size : Int) then ((orielref27_number.f k (((rdOf ByteArray.empty x4 x6).extract 0 ((wrap64 (((rdOf ByteArray.empty x4 x6).size : Int) - 1)) : Int).toNat).extract 0 (t222 : Int).toNat)).bind fun t226 => (if 0 ≤ t223 then (if t223 ≤ ((((rdOf ByteArray.empty x4 x6).extract 0 ((wrap64 (((rdOf ByteArray.empty x4 x6).size : Int) - 1)) : Int).toNat).extract ((wrap64 (t222 + 1)) : Int).toNat ((rdOf ByteArray.empty x4 x6).extract 0 ((wrap64 (((rdOf ByteArray.empty x4 x6).size : Int) - 1)) : Int).toNat).size).size : Int) then ((orielref27_number.f k ((((rdOf ByteArray.empty x4 x6).extract 0 ((wrap64 (((rdOf ByteArray.empty x4 x6).size : Int) - 1)) : Int).toNat).extract ((wrap64 (t222 + 1)) : Int).toNat ((rdOf ByteArray.empty x4 x6).extract 0 ((wrap64 (((rdOf ByteArray.empty x4 x6).size : Int) - 1)) : Int).toNat).size).extract 0 (t223 : Int).toNat)).bind fun t227 => (if bt224.2 = true then (if t226 < 0 then (orielref27_Read.j1 k x4 x5 x6 bt224.1 t226 t227 true) else (orielref27_Read.j1 k x4 x5 x6 bt224.1 t226 t227 (decide (t227 < 0)))) else (orielref27_Read.j1 k x4 x5 x6 bt224.1 t226 t227 true))) else (none)) else (none))) else (none)) else (none))) else (none)) else (none)))) else (none)) else (none)))) else (none)) else (some (([] : List (S56)), false))) else (none)) else (none)) else (none)) else (some (x5, true))
def orielref27_Read.j1 : Nat → List ByteArray → List (S56) → Int → ByteArray → Int → Int → Bool → Option ((List (S56)) × Bool)
 | 0, _, _, _, _, _, _, _ => none
 | k + 1, x4, x5, x6, x11, x13, x14, x75 => if x75 = true then (some (([] : List (S56)), false)) else (if x5.length < 4398046511104 then (orielref27_Read.l0 k x4 (x5 ++ [(⟨x13, x14, x11⟩ : S56)]) (wrap64 (x6 + 1))) else (none))
end
def orielref27_Read.f (k : Nat) (a0 : ByteArray) : Option ((List (S56)) × Bool) := (orielref27_Lines.f k a0).bind fun t218 => (orielref27_Read.l0 k t218 ([] : List (S56)) 0)
theorem orielref27_Read.mono_l : ∀ k, (∀ y0 y1 y2, LeO (orielref27_Read.l0 k y0 y1 y2) (orielref27_Read.l0 (k + 1) y0 y1 y2)) ∧ (∀ y0 y1 y2 y3 y4 y5 y6, LeO (orielref27_Read.j1 k y0 y1 y2 y3 y4 y5 y6) (orielref27_Read.j1 (k + 1) y0 y1 y2 y3 y4 y5 y6))
 | 0 => ⟨fun _ _ _ r h => by simp [orielref27_Read.l0] at h, fun _ _ _ _ _ _ _ r h => by simp [orielref27_Read.j1] at h⟩
 | k + 1 => by
  obtain ⟨ih0, ih1⟩ := orielref27_Read.mono_l k
  refine ⟨?_, ?_⟩
  ·intro y0 y1 y2
   unfold orielref27_Read.l0
   repeat' first
   | (with_reducible exact ih0 _ _ _)
   | (with_reducible exact ih1 _ _ _ _ _ _ _)
   | (with_reducible exact orielref26_Unquote.mono _ _)
   | (with_reducible exact orielref27_Lines.mono _ _)
   | (with_reducible exact orielref27_blank.mono _ _)
   | (with_reducible exact orielref27_number.mono _ _)
   | (with_reducible exact LeO.refl _)
   | (with_reducible exact LeO.none _)
   | (with_reducible refine LeO.ite ?_ ?_)
   | (with_reducible refine LeO.bind ?_ (fun _ => ?_))
   | exact ih0 _ _ _
   | exact ih1 _ _ _ _ _ _ _
   | exact orielref26_Unquote.mono _ _
   | exact orielref27_Lines.mono _ _
   | exact orielref27_blank.mono _ _
   | exact orielref27_number.mono _ _
   | exact LeO.none _
   | refine LeO.ite ?_ ?_
   | refine LeO.bind ?_ (fun _ => ?_)
  ·intro y0 y1 y2 y3 y4 y5 y6
   unfold orielref27_Read.j1
   repeat' first
   | (with_reducible exact ih0 _ _ _)
   | (with_reducible exact ih1 _ _ _ _ _ _ _)
   | (with_reducible exact orielref26_Unquote.mono _ _)
   | (with_reducible exact orielref27_Lines.mono _ _)
   | (with_reducible exact orielref27_blank.mono _ _)
   | (with_reducible exact orielref27_number.mono _ _)
   | (with_reducible exact LeO.refl _)
   | (with_reducible exact LeO.none _)
   | (with_reducible refine LeO.ite ?_ ?_)
   | (with_reducible refine LeO.bind ?_ (fun _ => ?_))
   | exact ih0 _ _ _
   | exact ih1 _ _ _ _ _ _ _
   | exact orielref26_Unquote.mono _ _
   | exact orielref27_Lines.mono _ _
   | exact orielref27_blank.mono _ _
   | exact orielref27_number.mono _ _
   | exact LeO.none _
   | refine LeO.ite ?_ ?_
   | refine LeO.bind ?_ (fun _ => ?_)
theorem orielref27_Read.mono : ∀ a0 k, LeO (orielref27_Read.f k a0) (orielref27_Read.f (k + 1) a0) := by
 intro a0 k
 obtain ⟨ih0, ih1⟩ := orielref27_Read.mono_l k
 unfold orielref27_Read.f
 repeat' first
   | (with_reducible exact ih0 _ _ _)
   | (with_reducible exact ih1 _ _ _ _ _ _ _)
   | (with_reducible exact orielref26_Unquote.mono _ _)
   | (with_reducible exact orielref27_Lines.mono _ _)
   | (with_reducible exact orielref27_blank.mono _ _)
   | (with_reducible exact orielref27_number.mono _ _)
   | (with_reducible exact LeO.refl _)
   | (with_reducible exact LeO.none _)
   | (with_reducible refine LeO.ite ?_ ?_)
   | (with_reducible refine LeO.bind ?_ (fun _ => ?_))
   | exact ih0 _ _ _
   | exact ih1 _ _ _ _ _ _ _
   | exact orielref26_Unquote.mono _ _
   | exact orielref27_Lines.mono _ _
   | exact orielref27_blank.mono _ _
   | exact orielref27_number.mono _ _
   | exact LeO.none _
   | refine LeO.ite ?_ ?_
   | refine LeO.bind ?_ (fun _ => ?_)
set_option maxHeartbeats 8000000 in
set_option maxRecDepth 100000 in
theorem orielref27_Read.calls (k : Nat) (a0 : ByteArray) (r1 : List (S56)) (r2 : Bool) (w : World) (h : orielref27_Read.f k a0 = some (r1, r2)) :
  Calls Tryd.prog 27 #[.string a0] w fun e w' => ∃ v0_ : Value, e = .returned (.tuple #[v0_, .bool r2]) ∧ Kd.R k56 56 w' w.heap.size (fun _ => True) v0_ r1 ∧ Below w.heap.size w w' := by
 have hu56 := Tryd.underlying56
 have HB := Aside0.mk (Below.refl w.heap.size w)
 have H : ((orielref27_Lines.f k a0).bind fun t218 => (orielref27_Read.l0 k t218 ([] : List (S56)) 0)) = some (r1, r2) := h
 clear h
 replace H := Option.bind_eq_some_iff.mp H
 obtain ⟨t218, A20, H⟩ := H
 replace H : (orielref27_Read.l0 k t218 ([] : List (S56)) 0) = some (r1, r2) := H
 have A2 := Aside0.mk A20
 clear A20
 have H' := Aside0.mk H
 clear H
 go_enter Tryd.func27, Tryd.ntmps27
 go_wp2_with (first | (go_at_call 12; (with_reducible refine (orielref27_Lines.calls k a0 t218 _ A2.out).mono ?_); rintro e w3 ⟨v219, rfl, ho0, hb⟩; have n0_ := Aside0.mk (Kd.R_lower ho0 (below_size (by repeat (first | (with_reducible first | exact HB.out | apply below_alloc | apply pw_below_drewN | apply below_drew1) | exact HB.out)))); have n1_ := Aside0.mk (below_step (by repeat (first | (with_reducible first | exact HB.out | apply below_alloc | apply pw_below_drewN | apply below_drew1) | exact HB.out)) hb); clear HB; have HO220 := n0_; have HB := n1_; clear n0_ n1_; (try clear hb); (try clear hb2); (try clear hk); (try clear hi); (try clear ho0)))
 repeat (go_quiet (first | (go_at_call 12; (with_reducible refine (orielref27_Lines.calls k a0 t218 _ A2.out).mono ?_); rintro e w3 ⟨v219, rfl, ho0, hb⟩; have n0_ := Aside0.mk (Kd.R_lower ho0 (below_size (by repeat (first | (with_reducible first | exact HB.out | apply below_alloc | apply pw_below_drewN | apply below_drew1) | exact HB.out)))); have n1_ := Aside0.mk (below_step (by repeat (first | (with_reducible first | exact HB.out | apply below_alloc | apply pw_below_drewN | apply below_drew1) | exact HB.out)) hb); clear HB; have HO220 := n0_; have HB := n1_; clear n0_ n1_; (try clear hb); (try clear hb2); (try clear hk); (try clear hi); (try clear ho0))); try go_wp2_with (first | (go_at_call 12; (with_reducible refine (orielref27_Lines.calls k a0 t218 _ A2.out).mono ?_); rintro e w3 ⟨v219, rfl, ho0, hb⟩; have n0_ := Aside0.mk (Kd.R_lower ho0 (below_size (by repeat (first | (with_reducible first | exact HB.out | apply below_alloc | apply pw_below_drewN | apply below_drew1) | exact HB.out)))); have n1_ := Aside0.mk (below_step (by repeat (first | (with_reducible first | exact HB.out | apply below_alloc | apply pw_below_drewN | apply below_drew1) | exact HB.out)) hb); clear HB; have HO220 := n0_; have HB := n1_; clear n0_ n1_; (try clear hb); (try clear hb2); (try clear hk); (try clear hi); (try clear ho0))))
 go_loopg [5, 6] k (fun kq v5 v6 w' => ∃ (x5_1 : List (S56)) (x6_1 : Int), v6 = .int .i64 x6_1 ∧ Aside0 (orielref27_Read.l0 kq t218 x5_1 x6_1 = some (r1, r2)) ∧ Aside0 (kq ≤ k) ∧ Aside0 (Kd.R Kd.string 9 w' w.heap.size (fun _ => True) v219 t218) ∧ Aside0 (Kd.R k56 56 w' w.heap.size (fun _ => True) v5 x5_1) ∧ Aside0 (Below w.heap.size w w'))
 case atStart => exact ⟨(([] : List (S56))), (0), (by first | rfl | (simp; done) | (simp [*]; done)), H', ⟨Nat.le_refl _⟩, ⟨by exact HO220.out⟩, ⟨by first | exact Kd.R_nil _ _ _ _ _ | exact Kd.N_nil _ _ _ _ _ | exact Kd.V_nil _ _ _ _ _ | exact Kd.Q_nil _ _ _ _ _ | exact Kd.S_nil _ _ _ _ _⟩, ⟨by exact HB.out⟩⟩
 case round =>
  clear H'
  obtain ⟨x5_1, x6_1, rfl, HA, HK1, HO_4, HO_5, HB⟩ := hrel
  cases gk with
  | zero => exact absurd HA.out (by simp [orielref27_Read.l0])
  | succ k1 =>
   have H := HA.out
   clear HA
   simp only [orielref27_Read.l0] at H
   by_cases c4 : x6_1 < (t218.length : Int)
   ·rw [if_pos c4] at H
    have c4b0 : decide (x6_1 < (t218.length : Int)) = true := decide_eq_true c4
    clear c4
    by_cases c5 : 0 ≤ x6_1
    ·rw [if_pos c5] at H
     have c5b0 : decide (0 ≤ x6_1) = true := decide_eq_true c5
     clear c5
     obtain ⟨ji6, hji6⟩ : ∃ j_ : Int, (wrap64 (((rdOf ByteArray.empty t218 x6_1).size : Int) - 1)) = j_ := ⟨_, rfl⟩
     replace H : (if 0 ≤ (ji6) then (if (ji6) < ((rdOf ByteArray.empty t218 x6_1).size : Int) then (if (bt (rdOf ByteArray.empty t218 x6_1) (ji6)) = 10 then (if (ji6) ≤ ((rdOf ByteArray.empty t218 x6_1).size : Int) then ((orielref27_blank.f k1 ((rdOf ByteArray.empty t218 x6_1).extract 0 ((ji6) : Int).toNat)).bind fun t222 => (if t222 < 0 then (some (([] : List (S56)), false)) else (if 0 ≤ (wrap64 (t222 + 1)) then (if (wrap64 (t222 + 1)) ≤ (((rdOf ByteArray.empty t218 x6_1).extract 0 ((ji6) : Int).toNat).size : Int) then ((orielref27_blank.f k1 (((rdOf ByteArray.empty t218 x6_1).extract 0 ((ji6) : Int).toNat).extract ((wrap64 (t222 + 1)) : Int).toNat ((rdOf ByteArray.empty t218 x6_1).extract 0 ((ji6) : Int).toNat).size)).bind fun t223 => (if t223 < 0 then (some (([] : List (S56)), false)) else (if 0 ≤ (wrap64 (t223 + 1)) then (if (wrap64 (t223 + 1)) ≤ ((((rdOf ByteArray.empty t218 x6_1).extract 0 ((ji6) : Int).toNat).extract ((wrap64 (t222 + 1)) : Int).toNat ((rdOf ByteArray.empty t218 x6_1).extract 0 ((ji6) : Int).toNat).size).size : Int) then ((orielref26_Unquote.f k1 ((((rdOf ByteArray.empty t218 x6_1).extract 0 ((ji6) : Int).toNat).extract ((wrap64 (t222 + 1)) : Int).toNat ((rdOf ByteArray.empty t218 x6_1).extract 0 ((ji6) : Int).toNat).size).extract ((wrap64 (t223 + 1)) : Int).toNat (((rdOf ByteArray.empty t218 x6_1).extract 0 ((ji6) : Int).toNat).extract ((wrap64 (t222 + 1)) : Int).toNat ((rdOf ByteArray.empty t218 x6_1).extract 0 ((ji6) : Int).toNat).size).size)).bind fun bt224 => (if 0 ≤ t222 then (if t222 ≤ (((rdOf ByteArray.empty t218 x6_1).extract 0 ((ji6) : Int).toNat).size : Int) then ((orielref27_number.f k1 (((rdOf ByteArray.empty t218 x6_1).extract 0 ((ji6) : Int).toNat).extract 0 (t222 : Int).toNat)).bind fun t226 => (if 0 ≤ t223 then (if t223 ≤ ((((rdOf ByteArray.empty t218 x6_1).extract 0 ((ji6) : Int).toNat).extract ((wrap64 (t222 + 1)) : Int).toNat ((rdOf ByteArray.empty t218 x6_1).extract 0 ((ji6) : Int).toNat).size).size : Int) then ((orielref27_number.f k1 ((((rdOf ByteArray.empty t218 x6_1).extract 0 ((ji6) : Int).toNat).extract ((wrap64 (t222 + 1)) : Int).toNat ((rdOf ByteArray.empty t218 x6_1).extract 0 ((ji6) : Int).toNat).size).extract 0 (t223 : Int).toNat)).bind fun t227 => (if bt224.2 = true then (if t226 < 0 then (orielref27_Read.j1 k1 t218 x5_1 x6_1 bt224.1 t226 t227 true) else (orielref27_Read.j1 k1 t218 x5_1 x6_1 bt224.1 t226 t227 (decide (t227 < 0)))) else (orielref27_Read.j1 k1 t218 x5_1 x6_1 bt224.1 t226 t227 true))) else (none)) else (none))) else (none)) else (none))) else (none)) else (none)))) else (none)) else (none)))) else (none)) else (some (([] : List (S56)), false))) else (none)) else (none)) = some (r1, r2) := by first | (rw [hji6] at H; exact H) | (simp only [hji6] at H ⊢; exact H)
     have hji6w : (IntKind.i64.wrap (((rdOf ByteArray.empty t218 x6_1).size : Int) - 1)) = ji6 := (i64_w _).trans hji6
     by_cases c7 : 0 ≤ (ji6)
     ·rw [if_pos c7] at H
      have c7b0 : decide (0 ≤ (ji6)) = true := decide_eq_true c7
      clear c7
      by_cases c8 : (ji6) < ((rdOf ByteArray.empty t218 x6_1).size : Int)
      ·rw [if_pos c8] at H
       have c8b0 : decide ((ji6) < ((rdOf ByteArray.empty t218 x6_1).size : Int)) = true := decide_eq_true c8
       clear c8
       by_cases c10 : (bt (rdOf ByteArray.empty t218 x6_1) (ji6)) = 10
       ·rw [if_pos c10] at H
        have c10b0 : ((bt (rdOf ByteArray.empty t218 x6_1) (ji6)) == 10) = true := beq_iff_eq.mpr c10
        have c10b1 : ((bt (rdOf ByteArray.empty t218 x6_1) (ji6)) != 10) = false := bne_eq_false_iff_eq.mpr c10
        clear c10
        have c11b0 := eq_true (of_decide_eq_true (by first | (with_reducible assumption) | assumption) : 0 ≤ (ji6))
        by_cases c12 : (ji6) ≤ ((rdOf ByteArray.empty t218 x6_1).size : Int)
        ·rw [if_pos c12] at H
         have c12b0 := eq_true c12
         have c12b1 : decide ((ji6) ≤ ((rdOf ByteArray.empty t218 x6_1).size : Int)) = true := decide_eq_true c12
         clear c12
         obtain ⟨S1_, hS1_⟩ : ∃ S : ByteArray, (rdOf ByteArray.empty t218 x6_1).extract 0 ((ji6) : Int).toNat = S := ⟨_, rfl⟩
         simp only [hS1_] at H
         replace H := Option.bind_eq_some_iff.mp H
         obtain ⟨t222, A130, H⟩ := H
         replace H : (if t222 < 0 then (some (([] : List (S56)), false)) else (if 0 ≤ (wrap64 (t222 + 1)) then (if (wrap64 (t222 + 1)) ≤ (S1_.size : Int) then ((orielref27_blank.f k1 (S1_.extract ((wrap64 (t222 + 1)) : Int).toNat S1_.size)).bind fun t223 => (if t223 < 0 then (some (([] : List (S56)), false)) else (if 0 ≤ (wrap64 (t223 + 1)) then (if (wrap64 (t223 + 1)) ≤ ((S1_.extract ((wrap64 (t222 + 1)) : Int).toNat S1_.size).size : Int) then ((orielref26_Unquote.f k1 ((S1_.extract ((wrap64 (t222 + 1)) : Int).toNat S1_.size).extract ((wrap64 (t223 + 1)) : Int).toNat (S1_.extract ((wrap64 (t222 + 1)) : Int).toNat S1_.size).size)).bind fun bt224 => (if 0 ≤ t222 then (if t222 ≤ (S1_.size : Int) then ((orielref27_number.f k1 (S1_.extract 0 (t222 : Int).toNat)).bind fun t226 => (if 0 ≤ t223 then (if t223 ≤ ((S1_.extract ((wrap64 (t222 + 1)) : Int).toNat S1_.size).size : Int) then ((orielref27_number.f k1 ((S1_.extract ((wrap64 (t222 + 1)) : Int).toNat S1_.size).extract 0 (t223 : Int).toNat)).bind fun t227 => (if bt224.2 = true then (if t226 < 0 then (orielref27_Read.j1 k1 t218 x5_1 x6_1 bt224.1 t226 t227 true) else (orielref27_Read.j1 k1 t218 x5_1 x6_1 bt224.1 t226 t227 (decide (t227 < 0)))) else (orielref27_Read.j1 k1 t218 x5_1 x6_1 bt224.1 t226 t227 true))) else (none)) else (none))) else (none)) else (none))) else (none)) else (none)))) else (none)) else (none))) = some (r1, r2) := H
         have A13 := Aside0.mk A130
         clear A130
         by_cases c14 : t222 < 0
         ·rw [if_pos c14] at H
          have c14b0 : decide (t222 < 0) = true := decide_eq_true c14
          clear c14
          simp only [Option.some.injEq, Prod.mk.injEq] at H
          obtain ⟨rfl, rfl⟩ := H
          obtain ⟨Ao15, co15, eo15⟩ := Kd.R_slice HO_4.out
          subst eo15
          have p221 : 0 ≤ (x6_1 : Int) := of_decide_eq_true (by first | (with_reducible assumption) | assumption)
          have q221 : x6_1 < (t218.length : Int) := of_decide_eq_true (by first | (with_reducible assumption) | assumption)
          obtain ⟨ad221, e221, hx221_0⟩ := Kd.at_string (Kd.R_reads' HO_4.out).2.2 x6_1 p221 q221
          cases e221
          replace p221 := eq_true p221
          replace q221 := eq_true q221
          have p9 : 0 ≤ ((ji6) : Int) := of_decide_eq_true (by first | (with_reducible assumption) | assumption)
          have q9 : (ji6) < ((rdOf ByteArray.empty t218 x6_1).size : Int) := of_decide_eq_true (by first | (with_reducible assumption) | assumption)
          have hx9 := bt_at (rdOf ByteArray.empty t218 x6_1) (ji6)
          replace p9 := eq_true p9
          replace q9 := eq_true q9
          go_wp2_with (first | (go_at_call 46; (with_reducible refine (orielref27_blank.calls k1 S1_ t222 _ A13.out).mono ?_); rintro e w' ⟨rfl, ⟨nd, rfl⟩⟩; (try first | exact ⟨rfl, _, World.drewN_drewN _ _ _⟩ | exact ⟨rfl, _, Eq.trans (World.drewN_drewN _ _ _) (congrArg (World.drewN _) (Nat.add_assoc _ _ _))⟩)))
          repeat (go_quiet (first | (go_at_call 46; (with_reducible refine (orielref27_blank.calls k1 S1_ t222 _ A13.out).mono ?_); rintro e w' ⟨rfl, ⟨nd, rfl⟩⟩; (try first | exact ⟨rfl, _, World.drewN_drewN _ _ _⟩ | exact ⟨rfl, _, Eq.trans (World.drewN_drewN _ _ _) (congrArg (World.drewN _) (Nat.add_assoc _ _ _))⟩))); try go_wp2_with (first | (go_at_call 46; (with_reducible refine (orielref27_blank.calls k1 S1_ t222 _ A13.out).mono ?_); rintro e w' ⟨rfl, ⟨nd, rfl⟩⟩; (try first | exact ⟨rfl, _, World.drewN_drewN _ _ _⟩ | exact ⟨rfl, _, Eq.trans (World.drewN_drewN _ _ _) (congrArg (World.drewN _) (Nat.add_assoc _ _ _))⟩))))
          go_ret2
          exact ⟨_, by first | rfl | (simp [errW_none, errW_some] <;> rfl) | (simp only [← hji6]; first | rfl | (simp [errW_none, errW_some] <;> rfl)) | (simp [*, errW_none, errW_some] <;> rfl), by first | exact Kd.R_nil _ _ _ _ _ | exact Kd.N_nil _ _ _ _ _ | exact Kd.V_nil _ _ _ _ _ | exact Kd.Q_nil _ _ _ _ _ | exact Kd.S_nil _ _ _ _ _, by repeat (first | (with_reducible first | exact HB.out | apply below_alloc | apply pw_below_drewN | apply below_drew1) | exact HB.out)⟩
         ·rw [if_neg c14] at H
          have c14b0 : decide (t222 < 0) = false := decide_eq_false c14
          clear c14
          obtain ⟨ji16, hji16⟩ : ∃ j_ : Int, (wrap64 (t222 + 1)) = j_ := ⟨_, rfl⟩
          replace H : (if 0 ≤ (ji16) then (if (ji16) ≤ (S1_.size : Int) then ((orielref27_blank.f k1 (S1_.extract ((ji16) : Int).toNat S1_.size)).bind fun t223 => (if t223 < 0 then (some (([] : List (S56)), false)) else (if 0 ≤ (wrap64 (t223 + 1)) then (if (wrap64 (t223 + 1)) ≤ ((S1_.extract ((ji16) : Int).toNat S1_.size).size : Int) then ((orielref26_Unquote.f k1 ((S1_.extract ((ji16) : Int).toNat S1_.size).extract ((wrap64 (t223 + 1)) : Int).toNat (S1_.extract ((ji16) : Int).toNat S1_.size).size)).bind fun bt224 => (if 0 ≤ t222 then (if t222 ≤ (S1_.size : Int) then ((orielref27_number.f k1 (S1_.extract 0 (t222 : Int).toNat)).bind fun t226 => (if 0 ≤ t223 then (if t223 ≤ ((S1_.extract ((ji16) : Int).toNat S1_.size).size : Int) then ((orielref27_number.f k1 ((S1_.extract ((ji16) : Int).toNat S1_.size).extract 0 (t223 : Int).toNat)).bind fun t227 => (if bt224.2 = true then (if t226 < 0 then (orielref27_Read.j1 k1 t218 x5_1 x6_1 bt224.1 t226 t227 true) else (orielref27_Read.j1 k1 t218 x5_1 x6_1 bt224.1 t226 t227 (decide (t227 < 0)))) else (orielref27_Read.j1 k1 t218 x5_1 x6_1 bt224.1 t226 t227 true))) else (none)) else (none))) else (none)) else (none))) else (none)) else (none)))) else (none)) else (none)) = some (r1, r2) := by first | (rw [hji16] at H; exact H) | (simp only [hji16] at H ⊢; exact H)
          (try rw [hji16] at A13)
          have hji16w : (IntKind.i64.wrap (t222 + 1)) = ji16 := (i64_w _).trans hji16
          by_cases c17 : 0 ≤ (ji16)
          ·rw [if_pos c17] at H
           have c17b0 := eq_true c17
           have c17b1 : decide (0 ≤ (ji16)) = true := decide_eq_true c17
           clear c17
           by_cases c18 : (ji16) ≤ (S1_.size : Int)
           ·rw [if_pos c18] at H
            have c18b0 := eq_true c18
            have c18b1 : decide ((ji16) ≤ (S1_.size : Int)) = true := decide_eq_true c18
            clear c18
            obtain ⟨S2_, hS2_⟩ : ∃ S : ByteArray, S1_.extract ((ji16) : Int).toNat S1_.size = S := ⟨_, rfl⟩
            simp only [hS2_] at H
            replace H := Option.bind_eq_some_iff.mp H
            obtain ⟨t223, A190, H⟩ := H
            replace H : (if t223 < 0 then (some (([] : List (S56)), false)) else (if 0 ≤ (wrap64 (t223 + 1)) then (if (wrap64 (t223 + 1)) ≤ (S2_.size : Int) then ((orielref26_Unquote.f k1 (S2_.extract ((wrap64 (t223 + 1)) : Int).toNat S2_.size)).bind fun bt224 => (if 0 ≤ t222 then (if t222 ≤ (S1_.size : Int) then ((orielref27_number.f k1 (S1_.extract 0 (t222 : Int).toNat)).bind fun t226 => (if 0 ≤ t223 then (if t223 ≤ (S2_.size : Int) then ((orielref27_number.f k1 (S2_.extract 0 (t223 : Int).toNat)).bind fun t227 => (if bt224.2 = true then (if t226 < 0 then (orielref27_Read.j1 k1 t218 x5_1 x6_1 bt224.1 t226 t227 true) else (orielref27_Read.j1 k1 t218 x5_1 x6_1 bt224.1 t226 t227 (decide (t227 < 0)))) else (orielref27_Read.j1 k1 t218 x5_1 x6_1 bt224.1 t226 t227 true))) else (none)) else (none))) else (none)) else (none))) else (none)) else (none))) = some (r1, r2) := H
            have A19 := Aside0.mk A190
            clear A190
            by_cases c20 : t223 < 0
            ·rw [if_pos c20] at H
             have c20b0 : decide (t223 < 0) = true := decide_eq_true c20
             clear c20
             simp only [Option.some.injEq, Prod.mk.injEq] at H
             obtain ⟨rfl, rfl⟩ := H
             obtain ⟨Ao21, co21, eo21⟩ := Kd.R_slice HO_4.out
             subst eo21
             have p221 : 0 ≤ (x6_1 : Int) := of_decide_eq_true (by first | (with_reducible assumption) | assumption)
             have q221 : x6_1 < (t218.length : Int) := of_decide_eq_true (by first | (with_reducible assumption) | assumption)
             obtain ⟨ad221, e221, hx221_0⟩ := Kd.at_string (Kd.R_reads' HO_4.out).2.2 x6_1 p221 q221
             cases e221
             replace p221 := eq_true p221
             replace q221 := eq_true q221
             have p9 : 0 ≤ ((ji6) : Int) := of_decide_eq_true (by first | (with_reducible assumption) | assumption)
             have q9 : (ji6) < ((rdOf ByteArray.empty t218 x6_1).size : Int) := of_decide_eq_true (by first | (with_reducible assumption) | assumption)
             have hx9 := bt_at (rdOf ByteArray.empty t218 x6_1) (ji6)
             replace p9 := eq_true p9
             replace q9 := eq_true q9
             go_wp2_with (first | (go_at_call 46; (with_reducible refine (orielref27_blank.calls k1 S1_ t222 _ A13.out).mono ?_); rintro e w' ⟨rfl, ⟨nd, rfl⟩⟩; (try first | exact ⟨rfl, _, World.drewN_drewN _ _ _⟩ | exact ⟨rfl, _, Eq.trans (World.drewN_drewN _ _ _) (congrArg (World.drewN _) (Nat.add_assoc _ _ _))⟩)) | (go_at_call 46; (with_reducible refine (orielref27_blank.calls k1 S2_ t223 _ A19.out).mono ?_); rintro e w' ⟨rfl, ⟨nd, rfl⟩⟩; (try first | exact ⟨rfl, _, World.drewN_drewN _ _ _⟩ | exact ⟨rfl, _, Eq.trans (World.drewN_drewN _ _ _) (congrArg (World.drewN _) (Nat.add_assoc _ _ _))⟩)))
             repeat (go_quiet (first | (go_at_call 46; (with_reducible refine (orielref27_blank.calls k1 S1_ t222 _ A13.out).mono ?_); rintro e w' ⟨rfl, ⟨nd, rfl⟩⟩; (try first | exact ⟨rfl, _, World.drewN_drewN _ _ _⟩ | exact ⟨rfl, _, Eq.trans (World.drewN_drewN _ _ _) (congrArg (World.drewN _) (Nat.add_assoc _ _ _))⟩)) | (go_at_call 46; (with_reducible refine (orielref27_blank.calls k1 S2_ t223 _ A19.out).mono ?_); rintro e w' ⟨rfl, ⟨nd, rfl⟩⟩; (try first | exact ⟨rfl, _, World.drewN_drewN _ _ _⟩ | exact ⟨rfl, _, Eq.trans (World.drewN_drewN _ _ _) (congrArg (World.drewN _) (Nat.add_assoc _ _ _))⟩))); try go_wp2_with (first | (go_at_call 46; (with_reducible refine (orielref27_blank.calls k1 S1_ t222 _ A13.out).mono ?_); rintro e w' ⟨rfl, ⟨nd, rfl⟩⟩; (try first | exact ⟨rfl, _, World.drewN_drewN _ _ _⟩ | exact ⟨rfl, _, Eq.trans (World.drewN_drewN _ _ _) (congrArg (World.drewN _) (Nat.add_assoc _ _ _))⟩)) | (go_at_call 46; (with_reducible refine (orielref27_blank.calls k1 S2_ t223 _ A19.out).mono ?_); rintro e w' ⟨rfl, ⟨nd, rfl⟩⟩; (try first | exact ⟨rfl, _, World.drewN_drewN _ _ _⟩ | exact ⟨rfl, _, Eq.trans (World.drewN_drewN _ _ _) (congrArg (World.drewN _) (Nat.add_assoc _ _ _))⟩))))
             go_ret2
             exact ⟨_, by first | rfl | (simp [errW_none, errW_some] <;> rfl) | (simp only [← hji6, ← hji16]; first | rfl | (simp [errW_none, errW_some] <;> rfl)) | (simp [*, errW_none, errW_some] <;> rfl), by first | exact Kd.R_nil _ _ _ _ _ | exact Kd.N_nil _ _ _ _ _ | exact Kd.V_nil _ _ _ _ _ | exact Kd.Q_nil _ _ _ _ _ | exact Kd.S_nil _ _ _ _ _, by repeat (first | (with_reducible first | exact HB.out | apply below_alloc | apply pw_below_drewN | apply below_drew1) | exact HB.out)⟩
            ·rw [if_neg c20] at H
             have c20b0 : decide (t223 < 0) = false := decide_eq_false c20
             clear c20
             obtain ⟨ji22, hji22⟩ : ∃ j_ : Int, (wrap64 (t223 + 1)) = j_ := ⟨_, rfl⟩
             replace H : (if 0 ≤ (ji22) then (if (ji22) ≤ (S2_.size : Int) then ((orielref26_Unquote.f k1 (S2_.extract ((ji22) : Int).toNat S2_.size)).bind fun bt224 => (if 0 ≤ t222 then (if t222 ≤ (S1_.size : Int) then ((orielref27_number.f k1 (S1_.extract 0 (t222 : Int).toNat)).bind fun t226 => (if 0 ≤ t223 then (if t223 ≤ (S2_.size : Int) then ((orielref27_number.f k1 (S2_.extract 0 (t223 : Int).toNat)).bind fun t227 => (if bt224.2 = true then (if t226 < 0 then (orielref27_Read.j1 k1 t218 x5_1 x6_1 bt224.1 t226 t227 true) else (orielref27_Read.j1 k1 t218 x5_1 x6_1 bt224.1 t226 t227 (decide (t227 < 0)))) else (orielref27_Read.j1 k1 t218 x5_1 x6_1 bt224.1 t226 t227 true))) else (none)) else (none))) else (none)) else (none))) else (none)) else (none)) = some (r1, r2) := by first | (rw [hji22] at H; exact H) | (simp only [hji22] at H ⊢; exact H)
             (try rw [hji22] at A13)
             (try rw [hji22] at A19)
             have hji22w : (IntKind.i64.wrap (t223 + 1)) = ji22 := (i64_w _).trans hji22
             by_cases c23 : 0 ≤ (ji22)
             ·rw [if_pos c23] at H
              have c23b0 := eq_true c23
              have c23b1 : decide (0 ≤ (ji22)) = true := decide_eq_true c23
              clear c23
              by_cases c24 : (ji22) ≤ (S2_.size : Int)
              ·rw [if_pos c24] at H
               have c24b0 := eq_true c24
               have c24b1 : decide ((ji22) ≤ (S2_.size : Int)) = true := decide_eq_true c24
               clear c24
               replace H := Option.bind_eq_some_iff.mp H
               obtain ⟨⟨t224, t225⟩, A250, H⟩ := H
               replace H : (if 0 ≤ t222 then (if t222 ≤ (S1_.size : Int) then ((orielref27_number.f k1 (S1_.extract 0 (t222 : Int).toNat)).bind fun t226 => (if 0 ≤ t223 then (if t223 ≤ (S2_.size : Int) then ((orielref27_number.f k1 (S2_.extract 0 (t223 : Int).toNat)).bind fun t227 => (if t225 = true then (if t226 < 0 then (orielref27_Read.j1 k1 t218 x5_1 x6_1 t224 t226 t227 true) else (orielref27_Read.j1 k1 t218 x5_1 x6_1 t224 t226 t227 (decide (t227 < 0)))) else (orielref27_Read.j1 k1 t218 x5_1 x6_1 t224 t226 t227 true))) else (none)) else (none))) else (none)) else (none)) = some (r1, r2) := H
               have A25 := Aside0.mk A250
               clear A250
               by_cases c26 : 0 ≤ t222
               ·rw [if_pos c26] at H
                have c26b0 := eq_true c26
                have c26b1 : decide (0 ≤ t222) = true := decide_eq_true c26
                clear c26
                by_cases c27 : t222 ≤ (S1_.size : Int)
                ·rw [if_pos c27] at H
                 have c27b0 := eq_true c27
                 have c27b1 : decide (t222 ≤ (S1_.size : Int)) = true := decide_eq_true c27
                 clear c27
                 replace H := Option.bind_eq_some_iff.mp H
                 obtain ⟨t226, A280, H⟩ := H
                 replace H : (if 0 ≤ t223 then (if t223 ≤ (S2_.size : Int) then ((orielref27_number.f k1 (S2_.extract 0 (t223 : Int).toNat)).bind fun t227 => (if t225 = true then (if t226 < 0 then (orielref27_Read.j1 k1 t218 x5_1 x6_1 t224 t226 t227 true) else (orielref27_Read.j1 k1 t218 x5_1 x6_1 t224 t226 t227 (decide (t227 < 0)))) else (orielref27_Read.j1 k1 t218 x5_1 x6_1 t224 t226 t227 true))) else (none)) else (none)) = some (r1, r2) := H
                 have A28 := Aside0.mk A280
                 clear A280
                 by_cases c29 : 0 ≤ t223
                 ·rw [if_pos c29] at H
                  have c29b0 := eq_true c29
                  have c29b1 : decide (0 ≤ t223) = true := decide_eq_true c29
                  clear c29
                  by_cases c30 : t223 ≤ (S2_.size : Int)
                  ·rw [if_pos c30] at H
                   have c30b0 := eq_true c30
                   have c30b1 : decide (t223 ≤ (S2_.size : Int)) = true := decide_eq_true c30
                   clear c30
                   replace H := Option.bind_eq_some_iff.mp H
                   obtain ⟨t227, A310, H⟩ := H
                   replace H : (if t225 = true then (if t226 < 0 then (orielref27_Read.j1 k1 t218 x5_1 x6_1 t224 t226 t227 true) else (orielref27_Read.j1 k1 t218 x5_1 x6_1 t224 t226 t227 (decide (t227 < 0)))) else (orielref27_Read.j1 k1 t218 x5_1 x6_1 t224 t226 t227 true)) = some (r1, r2) := H
                   have A31 := Aside0.mk A310
                   clear A310
                   have HC32 := Aside0.mk H
                   clear H
                   obtain ⟨Ao33, co33, eo33⟩ := Kd.R_slice HO_4.out
                   subst eo33
                   have p221 : 0 ≤ (x6_1 : Int) := of_decide_eq_true (by first | (with_reducible assumption) | assumption)
                   have q221 : x6_1 < (t218.length : Int) := of_decide_eq_true (by first | (with_reducible assumption) | assumption)
                   obtain ⟨ad221, e221, hx221_0⟩ := Kd.at_string (Kd.R_reads' HO_4.out).2.2 x6_1 p221 q221
                   cases e221
                   replace p221 := eq_true p221
                   replace q221 := eq_true q221
                   have p9 : 0 ≤ ((ji6) : Int) := of_decide_eq_true (by first | (with_reducible assumption) | assumption)
                   have q9 : (ji6) < ((rdOf ByteArray.empty t218 x6_1).size : Int) := of_decide_eq_true (by first | (with_reducible assumption) | assumption)
                   have hx9 := bt_at (rdOf ByteArray.empty t218 x6_1) (ji6)
                   replace p9 := eq_true p9
                   replace q9 := eq_true q9
                   go_upto_region 19 with (first | (go_at_call 46; (with_reducible refine (orielref27_blank.calls k1 S1_ t222 _ A13.out).mono ?_); rintro e w' ⟨rfl, ⟨nd, rfl⟩⟩; (try first | exact ⟨rfl, _, World.drewN_drewN _ _ _⟩ | exact ⟨rfl, _, Eq.trans (World.drewN_drewN _ _ _) (congrArg (World.drewN _) (Nat.add_assoc _ _ _))⟩)) | (go_at_call 46; (with_reducible refine (orielref27_blank.calls k1 S2_ t223 _ A19.out).mono ?_); rintro e w' ⟨rfl, ⟨nd, rfl⟩⟩; (try first | exact ⟨rfl, _, World.drewN_drewN _ _ _⟩ | exact ⟨rfl, _, Eq.trans (World.drewN_drewN _ _ _) (congrArg (World.drewN _) (Nat.add_assoc _ _ _))⟩)) | (go_at_call 47; (with_reducible refine (orielref26_Unquote.calls k1 (S2_.extract ((ji22) : Int).toNat S2_.size) t224 t225 _ A25.out).mono ?_); rintro e w34 ⟨rfl, hb⟩; have n0_ := Aside0.mk (Kd.R_below (by (with_reducible repeat (first | apply Kd.R_alloc | apply Kd.R_drewN | apply Kd.R_drew)); exact HO_4.out) hb); have n1_ := Aside0.mk (Kd.R_below (by (with_reducible repeat (first | apply Kd.R_alloc | apply Kd.R_drewN | apply Kd.R_drew)); exact HO_5.out) hb); have n2_ := Aside0.mk (below_step (by repeat (first | (with_reducible first | exact HB.out | apply below_alloc | apply pw_below_drewN | apply below_drew1) | exact HB.out)) hb); clear HO_4; clear HO_5; clear HB; have HO_4 := n0_; have HO_5 := n1_; have HB := n2_; clear n0_ n1_ n2_; (try clear hb); (try clear hb2); (try clear hk); (try clear hi)) | (go_at_call 48; (with_reducible refine (orielref27_number.calls k1 (S1_.extract 0 (t222 : Int).toNat) t226 _ A28.out).mono ?_); rintro e w' ⟨rfl, ⟨nd, rfl⟩⟩; (try first | exact ⟨rfl, _, World.drewN_drewN _ _ _⟩ | exact ⟨rfl, _, Eq.trans (World.drewN_drewN _ _ _) (congrArg (World.drewN _) (Nat.add_assoc _ _ _))⟩)) | (go_at_call 48; (with_reducible refine (orielref27_number.calls k1 (S2_.extract 0 (t223 : Int).toNat) t227 _ A31.out).mono ?_); rintro e w' ⟨rfl, ⟨nd, rfl⟩⟩; (try first | exact ⟨rfl, _, World.drewN_drewN _ _ _⟩ | exact ⟨rfl, _, Eq.trans (World.drewN_drewN _ _ _) (congrArg (World.drewN _) (Nat.add_assoc _ _ _))⟩)))
                   repeat (go_quiet (first | (go_at_call 46; (with_reducible refine (orielref27_blank.calls k1 S1_ t222 _ A13.out).mono ?_); rintro e w' ⟨rfl, ⟨nd, rfl⟩⟩; (try first | exact ⟨rfl, _, World.drewN_drewN _ _ _⟩ | exact ⟨rfl, _, Eq.trans (World.drewN_drewN _ _ _) (congrArg (World.drewN _) (Nat.add_assoc _ _ _))⟩)) | (go_at_call 46; (with_reducible refine (orielref27_blank.calls k1 S2_ t223 _ A19.out).mono ?_); rintro e w' ⟨rfl, ⟨nd, rfl⟩⟩; (try first | exact ⟨rfl, _, World.drewN_drewN _ _ _⟩ | exact ⟨rfl, _, Eq.trans (World.drewN_drewN _ _ _) (congrArg (World.drewN _) (Nat.add_assoc _ _ _))⟩)) | (go_at_call 47; (with_reducible refine (orielref26_Unquote.calls k1 (S2_.extract ((ji22) : Int).toNat S2_.size) t224 t225 _ A25.out).mono ?_); rintro e w34 ⟨rfl, hb⟩; have n0_ := Aside0.mk (Kd.R_below (by (with_reducible repeat (first | apply Kd.R_alloc | apply Kd.R_drewN | apply Kd.R_drew)); exact HO_4.out) hb); have n1_ := Aside0.mk (Kd.R_below (by (with_reducible repeat (first | apply Kd.R_alloc | apply Kd.R_drewN | apply Kd.R_drew)); exact HO_5.out) hb); have n2_ := Aside0.mk (below_step (by repeat (first | (with_reducible first | exact HB.out | apply below_alloc | apply pw_below_drewN | apply below_drew1) | exact HB.out)) hb); clear HO_4; clear HO_5; clear HB; have HO_4 := n0_; have HO_5 := n1_; have HB := n2_; clear n0_ n1_ n2_; (try clear hb); (try clear hb2); (try clear hk); (try clear hi)) | (go_at_call 48; (with_reducible refine (orielref27_number.calls k1 (S1_.extract 0 (t222 : Int).toNat) t226 _ A28.out).mono ?_); rintro e w' ⟨rfl, ⟨nd, rfl⟩⟩; (try first | exact ⟨rfl, _, World.drewN_drewN _ _ _⟩ | exact ⟨rfl, _, Eq.trans (World.drewN_drewN _ _ _) (congrArg (World.drewN _) (Nat.add_assoc _ _ _))⟩)) | (go_at_call 48; (with_reducible refine (orielref27_number.calls k1 (S2_.extract 0 (t223 : Int).toNat) t227 _ A31.out).mono ?_); rintro e w' ⟨rfl, ⟨nd, rfl⟩⟩; (try first | exact ⟨rfl, _, World.drewN_drewN _ _ _⟩ | exact ⟨rfl, _, Eq.trans (World.drewN_drewN _ _ _) (congrArg (World.drewN _) (Nat.add_assoc _ _ _))⟩))); go_upto_region 19 with (first | (go_at_call 46; (with_reducible refine (orielref27_blank.calls k1 S1_ t222 _ A13.out).mono ?_); rintro e w' ⟨rfl, ⟨nd, rfl⟩⟩; (try first | exact ⟨rfl, _, World.drewN_drewN _ _ _⟩ | exact ⟨rfl, _, Eq.trans (World.drewN_drewN _ _ _) (congrArg (World.drewN _) (Nat.add_assoc _ _ _))⟩)) | (go_at_call 46; (with_reducible refine (orielref27_blank.calls k1 S2_ t223 _ A19.out).mono ?_); rintro e w' ⟨rfl, ⟨nd, rfl⟩⟩; (try first | exact ⟨rfl, _, World.drewN_drewN _ _ _⟩ | exact ⟨rfl, _, Eq.trans (World.drewN_drewN _ _ _) (congrArg (World.drewN _) (Nat.add_assoc _ _ _))⟩)) | (go_at_call 47; (with_reducible refine (orielref26_Unquote.calls k1 (S2_.extract ((ji22) : Int).toNat S2_.size) t224 t225 _ A25.out).mono ?_); rintro e w34 ⟨rfl, hb⟩; have n0_ := Aside0.mk (Kd.R_below (by (with_reducible repeat (first | apply Kd.R_alloc | apply Kd.R_drewN | apply Kd.R_drew)); exact HO_4.out) hb); have n1_ := Aside0.mk (Kd.R_below (by (with_reducible repeat (first | apply Kd.R_alloc | apply Kd.R_drewN | apply Kd.R_drew)); exact HO_5.out) hb); have n2_ := Aside0.mk (below_step (by repeat (first | (with_reducible first | exact HB.out | apply below_alloc | apply pw_below_drewN | apply below_drew1) | exact HB.out)) hb); clear HO_4; clear HO_5; clear HB; have HO_4 := n0_; have HO_5 := n1_; have HB := n2_; clear n0_ n1_ n2_; (try clear hb); (try clear hb2); (try clear hk); (try clear hi)) | (go_at_call 48; (with_reducible refine (orielref27_number.calls k1 (S1_.extract 0 (t222 : Int).toNat) t226 _ A28.out).mono ?_); rintro e w' ⟨rfl, ⟨nd, rfl⟩⟩; (try first | exact ⟨rfl, _, World.drewN_drewN _ _ _⟩ | exact ⟨rfl, _, Eq.trans (World.drewN_drewN _ _ _) (congrArg (World.drewN _) (Nat.add_assoc _ _ _))⟩)) | (go_at_call 48; (with_reducible refine (orielref27_number.calls k1 (S2_.extract 0 (t223 : Int).toNat) t227 _ A31.out).mono ?_); rintro e w' ⟨rfl, ⟨nd, rfl⟩⟩; (try first | exact ⟨rfl, _, World.drewN_drewN _ _ _⟩ | exact ⟨rfl, _, Eq.trans (World.drewN_drewN _ _ _) (congrArg (World.drewN _) (Nat.add_assoc _ _ _))⟩))))
                   (try simp only [Act.put, List.setIfInBounds_toArray, List.set_cons_zero, List.set_cons_succ])
                   go_cut [75] (fun v75 wc => ∃ (kq : Nat) (x75_31 : Bool), v75 = .bool x75_31 ∧ Aside0 (orielref27_Read.j1 kq t218 x5_1 x6_1 t224 t226 t227 x75_31 = some (r1, r2)) ∧ Aside0 (kq ≤ k1) ∧ Aside0 (Kd.R Kd.string 9 wc w.heap.size (fun _ => True) (.slice (some ad221) t218.length co33) t218) ∧ Aside0 (Kd.R k56 56 wc w.heap.size (fun _ => True) u5 x5_1) ∧ Aside0 (Below w.heap.size w wc))
                   case first =>
                    have H := HC32.out
                    clear HC32
                    by_cases c35 : t225 = true
                    ·subst c35
                     have H1 : (if t226 < 0 then (orielref27_Read.j1 k1 t218 x5_1 x6_1 t224 t226 t227 true) else (orielref27_Read.j1 k1 t218 x5_1 x6_1 t224 t226 t227 (decide (t227 < 0)))) = some (r1, r2) := by rw [if_pos rfl] at H; exact H
                     clear H
                     have H := H1
                     clear H1
                     by_cases c36 : t226 < 0
                     ·rw [if_pos c36] at H
                      have c36b0 : decide (t226 < 0) = true := decide_eq_true c36
                      clear c36
                      (first | rw [c36b0] | (simp only [i64_w, i32_w]; rw [c36b0]) | skip)
                      have H' := Aside0.mk H
                      clear H
                      go_wp2
                      repeat (go_quiet (fail); try go_wp2)
                      go_meet
                      case rel => exact ⟨_, (true), (by first | rfl | (simp; done) | (simp [*]; done)), H', ⟨by have := HK1.out; first | omega | exact Nat.le_refl _⟩, ⟨by (with_reducible repeat (first | apply Kd.R_alloc | apply Kd.R_drewN | apply Kd.R_drew)); exact HO_4.out⟩, ⟨by (with_reducible repeat (first | apply Kd.R_alloc | apply Kd.R_drewN | apply Kd.R_drew)); exact HO_5.out⟩, ⟨by repeat (first | (with_reducible first | exact HB.out | apply below_alloc | apply pw_below_drewN | apply below_drew1) | exact HB.out)⟩⟩
                     ·rw [if_neg c36] at H
                      have c36b0 : decide (t226 < 0) = false := decide_eq_false c36
                      clear c36
                      (first | rw [c36b0] | (simp only [i64_w, i32_w]; rw [c36b0]) | skip)
                      have H' := Aside0.mk H
                      clear H
                      go_wp2
                      repeat (go_quiet (fail); try go_wp2)
                      go_meet
                      case rel => exact ⟨_, (decide (t227 < 0)), (by first | rfl | (simp; done) | (simp [*]; done)), H', ⟨by have := HK1.out; first | omega | exact Nat.le_refl _⟩, ⟨by (with_reducible repeat (first | apply Kd.R_alloc | apply Kd.R_drewN | apply Kd.R_drew)); exact HO_4.out⟩, ⟨by (with_reducible repeat (first | apply Kd.R_alloc | apply Kd.R_drewN | apply Kd.R_drew)); exact HO_5.out⟩, ⟨by repeat (first | (with_reducible first | exact HB.out | apply below_alloc | apply pw_below_drewN | apply below_drew1) | exact HB.out)⟩⟩
                    ·replace c35 := Bool.eq_false_iff.mpr c35
                     subst c35
                     have H1 : (orielref27_Read.j1 k1 t218 x5_1 x6_1 t224 t226 t227 true) = some (r1, r2) := by rw [if_neg (show ¬ (false = true) by decide)] at H; exact H
                     clear H
                     have H := H1
                     clear H1
                     have H' := Aside0.mk H
                     clear H
                     go_wp2
                     repeat (go_quiet (fail); try go_wp2)
                     go_meet
                     case rel => exact ⟨_, (true), (by first | rfl | (simp; done) | (simp [*]; done)), H', ⟨by have := HK1.out; first | omega | exact Nat.le_refl _⟩, ⟨by (with_reducible repeat (first | apply Kd.R_alloc | apply Kd.R_drewN | apply Kd.R_drew)); exact HO_4.out⟩, ⟨by (with_reducible repeat (first | apply Kd.R_alloc | apply Kd.R_drewN | apply Kd.R_drew)); exact HO_5.out⟩, ⟨by repeat (first | (with_reducible first | exact HB.out | apply below_alloc | apply pw_below_drewN | apply below_drew1) | exact HB.out)⟩⟩
                   case rest =>
                    clear HC32
                    obtain ⟨kq, x75_31, rfl, HA, HJ31, HO_4, HO_5, HB⟩ := hcut
                    cases kq with
                    | zero => exact absurd HA.out (by simp [orielref27_Read.j1])
                    | succ kj31 =>
                     have H := HA.out
                     clear HA
                     simp only [orielref27_Read.j1] at H
                     by_cases c37 : x75_31 = true
                     ·subst c37
                      have H1 : (some (([] : List (S56)), false)) = some (r1, r2) := by rw [if_pos rfl] at H; exact H
                      clear H
                      have H := H1
                      clear H1
                      simp only [Option.some.injEq, Prod.mk.injEq] at H
                      obtain ⟨rfl, rfl⟩ := H
                      go_wp2
                      repeat (go_quiet (fail); try go_wp2)
                      go_ret2
                      exact ⟨_, by first | rfl | (simp [errW_none, errW_some] <;> rfl) | (simp only [← hji6, ← hji16, ← hji22]; first | rfl | (simp [errW_none, errW_some] <;> rfl)) | (simp [*, errW_none, errW_some] <;> rfl), by first | exact Kd.R_nil _ _ _ _ _ | exact Kd.N_nil _ _ _ _ _ | exact Kd.V_nil _ _ _ _ _ | exact Kd.Q_nil _ _ _ _ _ | exact Kd.S_nil _ _ _ _ _, by exact HB.out⟩
                     ·replace c37 := Bool.eq_false_iff.mpr c37
                      subst c37
                      have H1 : (if x5_1.length < 4398046511104 then (orielref27_Read.l0 kj31 t218 (x5_1 ++ [(⟨t226, t227, t224⟩ : S56)]) (wrap64 (x6_1 + 1))) else (none)) = some (r1, r2) := by rw [if_neg (show ¬ (false = true) by decide)] at H; exact H
                      clear H
                      have H := H1
                      clear H1
                      by_cases c38 : x5_1.length < 4398046511104
                      ·rw [if_pos c38] at H
                       have LMc38 := Aside0.mk c38
                       clear c38
                       obtain ⟨y228, hy228⟩ : ∃ y_ : List (S56), y_ = (x5_1 ++ [(⟨t226, t227, t224⟩ : S56)]) := ⟨_, rfl⟩
                       replace H : (orielref27_Read.l0 kj31 t218 y228 (wrap64 (x6_1 + 1))) = some (r1, r2) := by first | (rw [hy228]; with_reducible exact H) | (have H2_ := (Option.bind_some _ _).symm.trans H; rw [hy228]; with_reducible exact H2_) | (have H2_ := (Option.bind_some _ _).symm.trans H; with_reducible exact H2_) | with_reducible exact H | (rw [hy228]; exact H) | exact H
                       have Ny228 := Aside0.mk hy228
                       clear hy228
                       have H' := Aside0.mk H
                       clear H
                       go_wp2_with (first | ((with_reducible refine gate_builtin (b := .append) (xs := #[.tmp 76, .tmp 81]) rfl ?_); at_builtin; refine Kd.R_append k56 (w0 := w) w.heap.size rfl (.tmp 76) (.tmp 81) 31 56 (.agg #[(.int .i64 0), (.int .i64 0), (.string ⟨#[]⟩)]) 32 rfl Tryd.underlying31 info56 rfl (by decide) (by omega) u5 x5_1 (⟨t226, t227, t224⟩ : S56) [.int .i64 t226, .int .i64 t227, .string t224] (fun _ => True) (fun _ => False) rfl rfl ?aP (fun _ hk => hk.elim) ?aF ?aO ?aB ?aS ?aL ?_; (case aP => exact k56_mkM _ _ _ (⟨t226, t227, t224⟩ : S56)); (case aB => exact (by exact HB.out)); (case aF => exact (fun _ _ => trivial)); (case aO => exact (by exact HO_5.out)); (case aS => exact (below_size (by exact HB.out))); (case aL => have := LMc38.out; omega); intro v229 w39 ho hb hg hat; rw [← Ny228.out] at ho; have n0_ := Aside0.mk (Kd.R_over' (by exact HO_4.out) (Kd.R_typed (by exact HO_5.out)) (by decide) hg); have n1_ := Aside0.mk (hb); have n2_ := Aside0.mk (ho); clear HO_4; clear HB; clear HO_5; have HO_4 := n0_; have HB := n1_; have HO230 := n2_; clear n0_ n1_ n2_; clear ho hb hg hat))
                       go_roundg kj31
                       case measure => have := HK1.out; have := HJ31.out; omega
                       case rel => exact ⟨(y228), (wrap64 (x6_1 + 1)), (by first | rfl | (simp; done) | (simp [*]; done)), H', ⟨by have := HK1.out; have := HJ31.out; omega⟩, ⟨by exact HO_4.out⟩, ⟨by exact HO230.out⟩, ⟨by exact HB.out⟩⟩
                      ·rw [if_neg c38] at H
                       exact absurd H (by simp)
                  ·rw [if_neg c30] at H
                   exact absurd H (by simp)
                 ·rw [if_neg c29] at H
                  exact absurd H (by simp)
                ·rw [if_neg c27] at H
                 exact absurd H (by simp)
               ·rw [if_neg c26] at H
                exact absurd H (by simp)
              ·rw [if_neg c24] at H
               exact absurd H (by simp)
             ·rw [if_neg c23] at H
              exact absurd H (by simp)
           ·rw [if_neg c18] at H
            exact absurd H (by simp)
          ·rw [if_neg c17] at H
           exact absurd H (by simp)
        ·rw [if_neg c12] at H
         exact absurd H (by simp)
       ·rw [if_neg c10] at H
        have c10b0 : ((bt (rdOf ByteArray.empty t218 x6_1) (ji6)) == 10) = false := beq_eq_false_iff_ne.mpr c10
        have c10b1 : ((bt (rdOf ByteArray.empty t218 x6_1) (ji6)) != 10) = true := bne_iff_ne.mpr c10
        simp only [Option.some.injEq, Prod.mk.injEq] at H
        obtain ⟨rfl, rfl⟩ := H
        obtain ⟨Ao40, co40, eo40⟩ := Kd.R_slice HO_4.out
        subst eo40
        have p221 : 0 ≤ (x6_1 : Int) := of_decide_eq_true (by first | (with_reducible assumption) | assumption)
        have q221 : x6_1 < (t218.length : Int) := of_decide_eq_true (by first | (with_reducible assumption) | assumption)
        obtain ⟨ad221, e221, hx221_0⟩ := Kd.at_string (Kd.R_reads' HO_4.out).2.2 x6_1 p221 q221
        cases e221
        replace p221 := eq_true p221
        replace q221 := eq_true q221
        have p9 : 0 ≤ ((ji6) : Int) := of_decide_eq_true (by first | (with_reducible assumption) | assumption)
        have q9 : (ji6) < ((rdOf ByteArray.empty t218 x6_1).size : Int) := of_decide_eq_true (by first | (with_reducible assumption) | assumption)
        have hx9 := bt_at (rdOf ByteArray.empty t218 x6_1) (ji6)
        replace p9 := eq_true p9
        replace q9 := eq_true q9
        go_wp2
        repeat (go_quiet (fail); try go_wp2)
        go_ret2
        exact ⟨_, by first | rfl | (simp [errW_none, errW_some] <;> rfl) | (simp only [← hji6]; first | rfl | (simp [errW_none, errW_some] <;> rfl)) | (simp [*, errW_none, errW_some] <;> rfl), by first | exact Kd.R_nil _ _ _ _ _ | exact Kd.N_nil _ _ _ _ _ | exact Kd.V_nil _ _ _ _ _ | exact Kd.Q_nil _ _ _ _ _ | exact Kd.S_nil _ _ _ _ _, by exact HB.out⟩
      ·rw [if_neg c8] at H
       exact absurd H (by simp)
     ·rw [if_neg c7] at H
      exact absurd H (by simp)
    ·rw [if_neg c5] at H
     exact absurd H (by simp)
   ·rw [if_neg c4] at H
    have c4b0 : decide (x6_1 < (t218.length : Int)) = false := decide_eq_false c4
    clear c4
    simp only [Option.some.injEq, Prod.mk.injEq] at H
    obtain ⟨rfl, rfl⟩ := H
    obtain ⟨Ao41, co41, eo41⟩ := Kd.R_slice HO_4.out
    subst eo41
    go_wp2
    repeat (go_quiet (fail); try go_wp2)
    go_ret2
    exact ⟨_, by first | rfl | (simp [errW_none, errW_some] <;> rfl) | (simp [*, errW_none, errW_some] <;> rfl), by exact HO_5.out, by exact HB.out⟩
end Go.Proofs.YtnemooemifbbhaaDoor.PDT
