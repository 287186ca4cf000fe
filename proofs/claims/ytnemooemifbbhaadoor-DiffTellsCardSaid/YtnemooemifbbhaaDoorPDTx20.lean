-- Written by ownprint.py, a program of this session (out of the kit's print, with contracts of the session's own).
import Derived.Test.YtnemooemifbbhaaDoorPDTx0
import Derived.Test.YtnemooemifbbhaaDoorPDTx19
namespace Go.Proofs.YtnemooemifbbhaaDoor.PDT
open Go.RowKit Go.Proofs.YtnemooemifbbhaaDoorW.PrintWords Go.Proofs.YtnemooemifbbhaaDoorW.PrintLast Go.Proofs.YtnemooemifbbhaaDoorW.PrintMore
attribute [local go_sem] max2_int min2_int max_two min_two max_three min_three max_four min_four   -- for this text's walks alone
set_option linter.unusedVariables false
set_option linter.unusedSimpArgs false
/-! ### orielref25_Quote: function 50 -/
mutual
def orielref25_Quote.l0 : Nat → ByteArray → ByteArray → Int → Option (ByteArray)
 | 0, _, _, _ => none
 | k + 1, x0, x3, x4 => if x4 < (x0.size : Int) then (if 0 ≤ x4 then (if (wrap64 (bt x0 x4)) = 34 then (orielref25_Quote.j1 k x0 x3 x4 (wrap64 (bt x0 x4)) true) else (orielref25_Quote.j1 k x0 x3 x4 (wrap64 (bt x0 x4)) ((wrap64 (bt x0 x4)) == 92))) else (none)) else ((orielref25_byteOf.f 34).bind fun t198 => (if x3.size + t198.size ≤ 9223372036854775807 then (some (x3 ++ t198)) else (none)))
def orielref25_Quote.j1 : Nat → ByteArray → ByteArray → Int → Int → Bool → Option (ByteArray)
 | 0, _, _, _, _, _ => none
 | k + 1, x0, x3, x4, x5, x22 => if x22 = true then ((orielref25_byteOf.f 92).bind fun t199 => (if x3.size + t199.size ≤ 9223372036854775807 then ((orielref25_byteOf.f x5).bind fun t200 => (if (x3 ++ t199).size + t200.size ≤ 9223372036854775807 then (orielref25_Quote.l0 k x0 ((x3 ++ t199) ++ t200) (wrap64 (x4 + 1))) else (none))) else (none))) else (if x5 = 10 then ((orielref25_byteOf.f 92).bind fun t201 => (if x3.size + t201.size ≤ 9223372036854775807 then (if (x3 ++ t201).size + 1 ≤ 9223372036854775807 then (orielref25_Quote.l0 k x0 ((x3 ++ t201) ++ (⟨#[110]⟩ : ByteArray)) (wrap64 (x4 + 1))) else (none)) else (none))) else (if x5 < 32 then (orielref25_Quote.j2 k x0 x3 x4 x5 true) else (orielref25_Quote.j2 k x0 x3 x4 x5 (decide (x5 ≥ 127)))))
def orielref25_Quote.j2 : Nat → ByteArray → ByteArray → Int → Int → Bool → Option (ByteArray)
 | 0, _, _, _, _, _ => none
 | k + 1, x0, x3, x4, x5, x40 => if x40 = true then ((orielref25_byteOf.f 92).bind fun t202 => (if x3.size + t202.size ≤ 9223372036854775807 then (if (x3 ++ t202).size + 1 ≤ 9223372036854775807 then ((orielref25_digit.f (wrap64 (Int.tdiv x5 16))).bind fun t203 => (if ((x3 ++ t202) ++ (⟨#[120]⟩ : ByteArray)).size + t203.size ≤ 9223372036854775807 then ((orielref25_digit.f (Int.tmod x5 16)).bind fun t204 => (if (((x3 ++ t202) ++ (⟨#[120]⟩ : ByteArray)) ++ t203).size + t204.size ≤ 9223372036854775807 then (orielref25_Quote.l0 k x0 ((((x3 ++ t202) ++ (⟨#[120]⟩ : ByteArray)) ++ t203) ++ t204) (wrap64 (x4 + 1))) else (none))) else (none))) else (none)) else (none))) else ((orielref25_byteOf.f x5).bind fun t205 => (if x3.size + t205.size ≤ 9223372036854775807 then (orielref25_Quote.l0 k x0 (x3 ++ t205) (wrap64 (x4 + 1))) else (none)))
end
def orielref25_Quote.f (k : Nat) (a0 : ByteArray) : Option (ByteArray) := (orielref25_byteOf.f 34).bind fun t197 => (orielref25_Quote.l0 k a0 t197 0)
theorem orielref25_Quote.mono_l : ∀ k, (∀ y0 y1 y2, LeO (orielref25_Quote.l0 k y0 y1 y2) (orielref25_Quote.l0 (k + 1) y0 y1 y2)) ∧ (∀ y0 y1 y2 y3 y4, LeO (orielref25_Quote.j1 k y0 y1 y2 y3 y4) (orielref25_Quote.j1 (k + 1) y0 y1 y2 y3 y4)) ∧ (∀ y0 y1 y2 y3 y4, LeO (orielref25_Quote.j2 k y0 y1 y2 y3 y4) (orielref25_Quote.j2 (k + 1) y0 y1 y2 y3 y4))
 | 0 => ⟨fun _ _ _ r h => by simp [orielref25_Quote.l0] at h, fun _ _ _ _ _ r h => by simp [orielref25_Quote.j1] at h, fun _ _ _ _ _ r h => by simp [orielref25_Quote.j2] at h⟩
 | k + 1 => by
  obtain ⟨ih0, ih1, ih2⟩ := orielref25_Quote.mono_l k
  refine ⟨?_, ?_, ?_⟩
  ·intro y0 y1 y2
   unfold orielref25_Quote.l0
   repeat' first
   | (with_reducible exact ih0 _ _ _)
   | (with_reducible exact ih1 _ _ _ _ _)
   | (with_reducible exact ih2 _ _ _ _ _)
   | (with_reducible exact LeO.refl _)
   | (with_reducible exact LeO.none _)
   | (with_reducible refine LeO.ite ?_ ?_)
   | (with_reducible refine LeO.bind ?_ (fun _ => ?_))
   | exact ih0 _ _ _
   | exact ih1 _ _ _ _ _
   | exact ih2 _ _ _ _ _
   | exact LeO.none _
   | refine LeO.ite ?_ ?_
   | refine LeO.bind ?_ (fun _ => ?_)
  ·intro y0 y1 y2 y3 y4
   unfold orielref25_Quote.j1
   repeat' first
   | (with_reducible exact ih0 _ _ _)
   | (with_reducible exact ih1 _ _ _ _ _)
   | (with_reducible exact ih2 _ _ _ _ _)
   | (with_reducible exact LeO.refl _)
   | (with_reducible exact LeO.none _)
   | (with_reducible refine LeO.ite ?_ ?_)
   | (with_reducible refine LeO.bind ?_ (fun _ => ?_))
   | exact ih0 _ _ _
   | exact ih1 _ _ _ _ _
   | exact ih2 _ _ _ _ _
   | exact LeO.none _
   | refine LeO.ite ?_ ?_
   | refine LeO.bind ?_ (fun _ => ?_)
  ·intro y0 y1 y2 y3 y4
   unfold orielref25_Quote.j2
   repeat' first
   | (with_reducible exact ih0 _ _ _)
   | (with_reducible exact ih1 _ _ _ _ _)
   | (with_reducible exact ih2 _ _ _ _ _)
   | (with_reducible exact LeO.refl _)
   | (with_reducible exact LeO.none _)
   | (with_reducible refine LeO.ite ?_ ?_)
   | (with_reducible refine LeO.bind ?_ (fun _ => ?_))
   | exact ih0 _ _ _
   | exact ih1 _ _ _ _ _
   | exact ih2 _ _ _ _ _
   | exact LeO.none _
   | refine LeO.ite ?_ ?_
   | refine LeO.bind ?_ (fun _ => ?_)
theorem orielref25_Quote.mono : ∀ a0 k, LeO (orielref25_Quote.f k a0) (orielref25_Quote.f (k + 1) a0) := by
 intro a0 k
 obtain ⟨ih0, ih1, ih2⟩ := orielref25_Quote.mono_l k
 unfold orielref25_Quote.f
 repeat' first
   | (with_reducible exact ih0 _ _ _)
   | (with_reducible exact ih1 _ _ _ _ _)
   | (with_reducible exact ih2 _ _ _ _ _)
   | (with_reducible exact LeO.refl _)
   | (with_reducible exact LeO.none _)
   | (with_reducible refine LeO.ite ?_ ?_)
   | (with_reducible refine LeO.bind ?_ (fun _ => ?_))
   | exact ih0 _ _ _
   | exact ih1 _ _ _ _ _
   | exact ih2 _ _ _ _ _
   | exact LeO.none _
   | refine LeO.ite ?_ ?_
   | refine LeO.bind ?_ (fun _ => ?_)
set_option maxHeartbeats 8000000 in
set_option maxRecDepth 100000 in
theorem orielref25_Quote.calls (k : Nat) (a0 : ByteArray) (r : ByteArray) (w : World) (h : orielref25_Quote.f k a0 = some r) :
  Calls Tryd.prog 50 #[.string a0] w fun e w' => e = .returned (.string r) ∧ Below w.heap.size w w' := by
 have HB := Aside0.mk (Below.refl w.heap.size w)
 have H : ((orielref25_byteOf.f 34).bind fun t197 => (orielref25_Quote.l0 k a0 t197 0)) = some r := h
 clear h
 replace H := Option.bind_eq_some_iff.mp H
 obtain ⟨t197, A20, H⟩ := H
 replace H : (orielref25_Quote.l0 k a0 t197 0) = some r := H
 have A2 := Aside0.mk A20
 clear A20
 have H' := Aside0.mk H
 clear H
 go_enter Tryd.func50, Tryd.ntmps50
 go_wp2_with (first | ((with_reducible refine gate_callee (f := 64) rfl ?_); refine goesL_ (some 6) rfl rfl Tryd.func64 (by kernel_rfl) rfl #[.int .i64 34] rfl (by (try simp only [List.map_toArray, List.map_cons, List.map_nil]); first | done | rfl | (simp only [List.length_drop, List.length_take]; rfl)) ?_; (with_reducible refine (orielref25_byteOf.calls 34 t197 _ A2.out).mono ?_); rintro e w3 ⟨rfl, hb⟩; refine ⟨_, rfl, ?_⟩; have n0_ := Aside0.mk (below_step (by repeat (first | (with_reducible first | exact HB.out | apply below_alloc | apply pw_below_drewN | apply below_drew1) | exact HB.out)) hb); clear HB; have HB := n0_; clear n0_; (try clear hb); (try clear hb2); (try clear hk); (try clear hi)))
 go_loopg [3, 4] k (fun kq v3 v4 w' => ∃ (x3_1 : ByteArray) (x4_1 : Int), v3 = .string x3_1 ∧ v4 = .int .i64 x4_1 ∧ Aside0 (orielref25_Quote.l0 kq a0 x3_1 x4_1 = some r) ∧ Aside0 (kq ≤ k) ∧ Aside0 (Below w.heap.size w w'))
 case atStart => exact ⟨(t197), (0), (by first | rfl | (simp; done) | (simp [*]; done)), (by first | rfl | (simp; done) | (simp [*]; done)), H', ⟨Nat.le_refl _⟩, ⟨by repeat (first | (with_reducible first | exact HB.out | apply below_alloc | apply pw_below_drewN | apply below_drew1) | exact HB.out)⟩⟩
 case round =>
  clear H'
  try clear p2
  obtain ⟨x3_1, x4_1, rfl, rfl, HA, HK1, HB⟩ := hrel
  cases gk with
  | zero => exact absurd HA.out (by simp [orielref25_Quote.l0])
  | succ k1 =>
   have H := HA.out
   clear HA
   simp only [orielref25_Quote.l0] at H
   by_cases c4 : x4_1 < (a0.size : Int)
   ·rw [if_pos c4] at H
    have c4b0 : decide (x4_1 < (a0.size : Int)) = true := decide_eq_true c4
    clear c4
    by_cases c5 : 0 ≤ x4_1
    ·rw [if_pos c5] at H
     have c5b0 : decide (0 ≤ x4_1) = true := decide_eq_true c5
     clear c5
     have HC7 := Aside0.mk H
     clear H
     have p6 : 0 ≤ (x4_1 : Int) := of_decide_eq_true (by first | (with_reducible assumption) | assumption)
     have q6 : x4_1 < (a0.size : Int) := of_decide_eq_true (by first | (with_reducible assumption) | assumption)
     have hx6 := bt_at a0 x4_1
     replace p6 := eq_true p6
     replace q6 := eq_true q6
     go_upto_region 6 with (fail)
     go_cut [22] (fun v22 wc => ∃ (kq : Nat) (x22_6 : Bool), v22 = .bool x22_6 ∧ Aside0 (orielref25_Quote.j1 kq a0 x3_1 x4_1 (wrap64 (bt a0 x4_1)) x22_6 = some r) ∧ Aside0 (kq ≤ k1) ∧ Aside0 (Below w.heap.size w wc))
     case first =>
      have H := HC7.out
      clear HC7
      by_cases c8 : (wrap64 (bt a0 x4_1)) = 34
      ·rw [if_pos c8] at H
       have c8b0 : ((wrap64 (bt a0 x4_1)) == 34) = true := beq_iff_eq.mpr c8
       have c8b1 : ((wrap64 (bt a0 x4_1)) != 34) = false := bne_eq_false_iff_eq.mpr c8
       clear c8
       (first | rw [c8b0] | (simp only [i64_w, i32_w]; rw [c8b0]) | skip)
       have H' := Aside0.mk H
       clear H
       go_wp2
       go_meet
       case rel => exact ⟨_, (true), (by first | rfl | (simp; done) | (simp [*]; done)), H', ⟨by have := HK1.out; first | omega | exact Nat.le_refl _⟩, ⟨by repeat (first | (with_reducible first | exact HB.out | apply below_alloc | apply pw_below_drewN | apply below_drew1) | exact HB.out)⟩⟩
      ·rw [if_neg c8] at H
       have c8b0 : ((wrap64 (bt a0 x4_1)) == 34) = false := beq_eq_false_iff_ne.mpr c8
       have c8b1 : ((wrap64 (bt a0 x4_1)) != 34) = true := bne_iff_ne.mpr c8
       (first | rw [c8b0] | (simp only [i64_w, i32_w]; rw [c8b0]) | skip)
       have H' := Aside0.mk H
       clear H
       go_wp2
       go_meet
       case rel => exact ⟨_, (((wrap64 (bt a0 x4_1)) == 92)), (by first | rfl | (simp; done) | (simp [*]; done)), H', ⟨by have := HK1.out; first | omega | exact Nat.le_refl _⟩, ⟨by repeat (first | (with_reducible first | exact HB.out | apply below_alloc | apply pw_below_drewN | apply below_drew1) | exact HB.out)⟩⟩
     case rest =>
      clear HC7
      (try clear p2);(try clear c4);(try clear c4b0);(try clear c5);(try clear c5b0);(try clear c6);(try clear p6);(try clear q6);(try clear hx6);(try clear c8);(try clear c8b0);(try clear c8b1);(try clear p2);(try clear p6);(try clear q6)
      obtain ⟨kq, x22_6, rfl, HA, HJ6, HB⟩ := hcut
      cases kq with
      | zero => exact absurd HA.out (by simp [orielref25_Quote.j1])
      | succ kj6 =>
       have H := HA.out
       clear HA
       simp only [orielref25_Quote.j1] at H
       by_cases c9 : x22_6 = true
       ·subst c9
        have H1 : ((orielref25_byteOf.f 92).bind fun t199 => (if x3_1.size + t199.size ≤ 9223372036854775807 then ((orielref25_byteOf.f (wrap64 (bt a0 x4_1))).bind fun t200 => (if (x3_1 ++ t199).size + t200.size ≤ 9223372036854775807 then (orielref25_Quote.l0 kj6 a0 ((x3_1 ++ t199) ++ t200) (wrap64 (x4_1 + 1))) else (none))) else (none))) = some r := by rw [if_pos rfl] at H; exact H
        clear H
        have H := H1
        clear H1
        replace H := Option.bind_eq_some_iff.mp H
        obtain ⟨t199, A100, H⟩ := H
        replace H : (if x3_1.size + t199.size ≤ 9223372036854775807 then ((orielref25_byteOf.f (wrap64 (bt a0 x4_1))).bind fun t200 => (if (x3_1 ++ t199).size + t200.size ≤ 9223372036854775807 then (orielref25_Quote.l0 kj6 a0 ((x3_1 ++ t199) ++ t200) (wrap64 (x4_1 + 1))) else (none))) else (none)) = some r := H
        have A10 := Aside0.mk A100
        clear A100
        by_cases c11 : x3_1.size + t199.size ≤ 9223372036854775807
        ·rw [if_pos c11] at H
         have c11b0 := eq_true c11
         have c11b1 : decide (x3_1.size + t199.size ≤ 9223372036854775807) = true := decide_eq_true c11
         try have c11b2 : (9223372036854775807 < x3_1.size + t199.size) = False := eq_false (Nat.not_lt.2 c11)
         replace H := Option.bind_eq_some_iff.mp H
         obtain ⟨t200, A120, H⟩ := H
         replace H : (if (x3_1 ++ t199).size + t200.size ≤ 9223372036854775807 then (orielref25_Quote.l0 kj6 a0 ((x3_1 ++ t199) ++ t200) (wrap64 (x4_1 + 1))) else (none)) = some r := H
         have A12 := Aside0.mk A120
         clear A120
         by_cases c13 : (x3_1 ++ t199).size + t200.size ≤ 9223372036854775807
         ·rw [if_pos c13] at H
          have c13b0 := eq_true c13
          have c13b1 : decide ((x3_1 ++ t199).size + t200.size ≤ 9223372036854775807) = true := decide_eq_true c13
          try have c13b2 : (9223372036854775807 < (x3_1 ++ t199).size + t200.size) = False := eq_false (Nat.not_lt.2 c13)
          try have c13b3 := c13b2
          try simp only [ByteArray.size_append, (show ∀ c : UInt8, (⟨#[c]⟩ : ByteArray).size = 1 from fun _ => rfl)] at c13b3
          have H' := Aside0.mk H
          clear H
          go_wp2_with (first | ((with_reducible refine gate_callee (f := 64) rfl ?_); refine goesL_ (some 24) rfl rfl Tryd.func64 (by kernel_rfl) rfl #[.int .i64 92] rfl (by (try simp only [List.map_toArray, List.map_cons, List.map_nil]); first | done | rfl | (simp only [List.length_drop, List.length_take]; rfl)) ?_; (with_reducible refine (orielref25_byteOf.calls 92 t199 _ A10.out).mono ?_); rintro e w14 ⟨rfl, hb⟩; refine ⟨_, rfl, ?_⟩; have n0_ := Aside0.mk (below_step (by repeat (first | (with_reducible first | exact HB.out | apply below_alloc | apply pw_below_drewN | apply below_drew1) | exact HB.out)) hb); clear HB; have HB := n0_; clear n0_; (try clear hb); (try clear hb2); (try clear hk); (try clear hi)) | ((with_reducible refine gate_callee (f := 64) rfl ?_); refine goesL_ (some 27) rfl rfl Tryd.func64 (by kernel_rfl) rfl #[.int .i64 (wrap64 (bt a0 x4_1))] rfl (by (try simp only [List.map_toArray, List.map_cons, List.map_nil]); first | done | rfl | (simp only [List.length_drop, List.length_take]; rfl)) ?_; (with_reducible refine (orielref25_byteOf.calls (wrap64 (bt a0 x4_1)) t200 _ A12.out).mono ?_); rintro e w15 ⟨rfl, hb⟩; refine ⟨_, rfl, ?_⟩; have n0_ := Aside0.mk (below_step (by repeat (first | (with_reducible first | exact HB.out | apply below_alloc | apply pw_below_drewN | apply below_drew1) | exact HB.out)) hb); clear HB; have HB := n0_; clear n0_; (try clear hb); (try clear hb2); (try clear hk); (try clear hi)))
          go_roundg kj6
          case measure => have := HK1.out; have := HJ6.out; omega
          case rel => exact ⟨((x3_1 ++ t199) ++ t200), (wrap64 (x4_1 + 1)), (by first | rfl | (simp; done) | (simp [*]; done)), (by first | rfl | (simp; done) | (simp [*]; done)), H', ⟨by have := HK1.out; have := HJ6.out; omega⟩, ⟨by repeat (first | (with_reducible first | exact HB.out | apply below_alloc | apply pw_below_drewN | apply below_drew1) | exact HB.out)⟩⟩
         ·rw [if_neg c13] at H
          exact absurd H (by simp)
        ·rw [if_neg c11] at H
         exact absurd H (by simp)
       ·replace c9 := Bool.eq_false_iff.mpr c9
        subst c9
        have H1 : (if (wrap64 (bt a0 x4_1)) = 10 then ((orielref25_byteOf.f 92).bind fun t201 => (if x3_1.size + t201.size ≤ 9223372036854775807 then (if (x3_1 ++ t201).size + 1 ≤ 9223372036854775807 then (orielref25_Quote.l0 kj6 a0 ((x3_1 ++ t201) ++ (⟨#[110]⟩ : ByteArray)) (wrap64 (x4_1 + 1))) else (none)) else (none))) else (if (wrap64 (bt a0 x4_1)) < 32 then (orielref25_Quote.j2 kj6 a0 x3_1 x4_1 (wrap64 (bt a0 x4_1)) true) else (orielref25_Quote.j2 kj6 a0 x3_1 x4_1 (wrap64 (bt a0 x4_1)) (decide ((wrap64 (bt a0 x4_1)) ≥ 127))))) = some r := by rw [if_neg (show ¬ (false = true) by decide)] at H; exact H
        clear H
        have H := H1
        clear H1
        by_cases c16 : (wrap64 (bt a0 x4_1)) = 10
        ·rw [if_pos c16] at H
         have c16b0 : ((wrap64 (bt a0 x4_1)) == 10) = true := beq_iff_eq.mpr c16
         have c16b1 : ((wrap64 (bt a0 x4_1)) != 10) = false := bne_eq_false_iff_eq.mpr c16
         clear c16
         replace H := Option.bind_eq_some_iff.mp H
         obtain ⟨t201, A170, H⟩ := H
         replace H : (if x3_1.size + t201.size ≤ 9223372036854775807 then (if (x3_1 ++ t201).size + 1 ≤ 9223372036854775807 then (orielref25_Quote.l0 kj6 a0 ((x3_1 ++ t201) ++ (⟨#[110]⟩ : ByteArray)) (wrap64 (x4_1 + 1))) else (none)) else (none)) = some r := H
         have A17 := Aside0.mk A170
         clear A170
         by_cases c18 : x3_1.size + t201.size ≤ 9223372036854775807
         ·rw [if_pos c18] at H
          have c18b0 := eq_true c18
          have c18b1 : decide (x3_1.size + t201.size ≤ 9223372036854775807) = true := decide_eq_true c18
          try have c18b2 : (9223372036854775807 < x3_1.size + t201.size) = False := eq_false (Nat.not_lt.2 c18)
          by_cases c19 : (x3_1 ++ t201).size + 1 ≤ 9223372036854775807
          ·rw [if_pos c19] at H
           have c19b0 := eq_true c19
           have c19b1 : decide ((x3_1 ++ t201).size + 1 ≤ 9223372036854775807) = true := decide_eq_true c19
           try have c19b2 : (9223372036854775807 < (x3_1 ++ t201).size + 1) = False := eq_false (Nat.not_lt.2 c19)
           try have c19b3 := c19b2
           try simp only [ByteArray.size_append, (show ∀ c : UInt8, (⟨#[c]⟩ : ByteArray).size = 1 from fun _ => rfl)] at c19b3
           have H' := Aside0.mk H
           clear H
           go_wp2_with (first | ((with_reducible refine gate_callee (f := 64) rfl ?_); refine goesL_ (some 32) rfl rfl Tryd.func64 (by kernel_rfl) rfl #[.int .i64 92] rfl (by (try simp only [List.map_toArray, List.map_cons, List.map_nil]); first | done | rfl | (simp only [List.length_drop, List.length_take]; rfl)) ?_; (with_reducible refine (orielref25_byteOf.calls 92 t201 _ A17.out).mono ?_); rintro e w20 ⟨rfl, hb⟩; refine ⟨_, rfl, ?_⟩; have n0_ := Aside0.mk (below_step (by repeat (first | (with_reducible first | exact HB.out | apply below_alloc | apply pw_below_drewN | apply below_drew1) | exact HB.out)) hb); clear HB; have HB := n0_; clear n0_; (try clear hb); (try clear hb2); (try clear hk); (try clear hi)))
           go_roundg kj6
           case measure => have := HK1.out; have := HJ6.out; omega
           case rel => exact ⟨((x3_1 ++ t201) ++ (⟨#[110]⟩ : ByteArray)), (wrap64 (x4_1 + 1)), (by first | rfl | (simp; done) | (simp [*]; done)), (by first | rfl | (simp; done) | (simp [*]; done)), H', ⟨by have := HK1.out; have := HJ6.out; omega⟩, ⟨by repeat (first | (with_reducible first | exact HB.out | apply below_alloc | apply pw_below_drewN | apply below_drew1) | exact HB.out)⟩⟩
          ·rw [if_neg c19] at H
           exact absurd H (by simp)
         ·rw [if_neg c18] at H
          exact absurd H (by simp)
        ·rw [if_neg c16] at H
         have c16b0 : ((wrap64 (bt a0 x4_1)) == 10) = false := beq_eq_false_iff_ne.mpr c16
         have c16b1 : ((wrap64 (bt a0 x4_1)) != 10) = true := bne_iff_ne.mpr c16
         have HC21 := Aside0.mk H
         clear H
         go_upto_region 10 with (fail)
         go_cut [40] (fun v40 wc => ∃ (kq : Nat) (x40_20 : Bool), v40 = .bool x40_20 ∧ Aside0 (orielref25_Quote.j2 kq a0 x3_1 x4_1 (wrap64 (bt a0 x4_1)) x40_20 = some r) ∧ Aside0 (kq ≤ kj6) ∧ Aside0 (Below w.heap.size w wc))
         case first =>
          have H := HC21.out
          clear HC21
          by_cases c22 : (wrap64 (bt a0 x4_1)) < 32
          ·rw [if_pos c22] at H
           have c22b0 : decide ((wrap64 (bt a0 x4_1)) < 32) = true := decide_eq_true c22
           clear c22
           (first | rw [c22b0] | (simp only [i64_w, i32_w]; rw [c22b0]) | skip)
           have H' := Aside0.mk H
           clear H
           go_wp2
           go_meet
           case rel => exact ⟨_, (true), (by first | rfl | (simp; done) | (simp [*]; done)), H', ⟨by have := HK1.out; have := HJ6.out; first | omega | exact Nat.le_refl _⟩, ⟨by repeat (first | (with_reducible first | exact HB.out | apply below_alloc | apply pw_below_drewN | apply below_drew1) | exact HB.out)⟩⟩
          ·rw [if_neg c22] at H
           have c22b0 : decide ((wrap64 (bt a0 x4_1)) < 32) = false := decide_eq_false c22
           clear c22
           (first | rw [c22b0] | (simp only [i64_w, i32_w]; rw [c22b0]) | skip)
           have H' := Aside0.mk H
           clear H
           go_wp2
           go_meet
           case rel => exact ⟨_, (decide ((wrap64 (bt a0 x4_1)) ≥ 127)), (by first | rfl | (simp; done) | (simp [*]; done)), H', ⟨by have := HK1.out; have := HJ6.out; first | omega | exact Nat.le_refl _⟩, ⟨by repeat (first | (with_reducible first | exact HB.out | apply below_alloc | apply pw_below_drewN | apply below_drew1) | exact HB.out)⟩⟩
         case rest =>
          clear HC21
          (try clear c1);(try clear c2);(try clear p2);(try clear c4);(try clear c4b0);(try clear c5);(try clear c5b0);(try clear c6);(try clear p6);(try clear q6);(try clear hx6);(try clear c8);(try clear c8b0);(try clear c8b1);(try clear c9);(try clear c11);(try clear c11b0);(try clear c11b1);(try clear c11b2);(try clear c13);(try clear c13b0);(try clear c13b1);(try clear c13b2);(try clear c16);(try clear c16b0);(try clear c16b1);(try clear c18);(try clear c18b0);(try clear c18b1);(try clear c18b2);(try clear c19);(try clear c19b0);(try clear c19b1);(try clear c19b2);(try clear c22);(try clear c22b0);(try clear p2);(try clear p6);(try clear q6)
          obtain ⟨kq, x40_20, rfl, HA, HJ20, HB⟩ := hcut
          cases kq with
          | zero => exact absurd HA.out (by simp [orielref25_Quote.j2])
          | succ kj20 =>
           have H := HA.out
           clear HA
           simp only [orielref25_Quote.j2] at H
           by_cases c23 : x40_20 = true
           ·subst c23
            have H1 : ((orielref25_byteOf.f 92).bind fun t202 => (if x3_1.size + t202.size ≤ 9223372036854775807 then (if (x3_1 ++ t202).size + 1 ≤ 9223372036854775807 then ((orielref25_digit.f (wrap64 (Int.tdiv (wrap64 (bt a0 x4_1)) 16))).bind fun t203 => (if ((x3_1 ++ t202) ++ (⟨#[120]⟩ : ByteArray)).size + t203.size ≤ 9223372036854775807 then ((orielref25_digit.f (Int.tmod (wrap64 (bt a0 x4_1)) 16)).bind fun t204 => (if (((x3_1 ++ t202) ++ (⟨#[120]⟩ : ByteArray)) ++ t203).size + t204.size ≤ 9223372036854775807 then (orielref25_Quote.l0 kj20 a0 ((((x3_1 ++ t202) ++ (⟨#[120]⟩ : ByteArray)) ++ t203) ++ t204) (wrap64 (x4_1 + 1))) else (none))) else (none))) else (none)) else (none))) = some r := by rw [if_pos rfl] at H; exact H
            clear H
            have H := H1
            clear H1
            replace H := Option.bind_eq_some_iff.mp H
            obtain ⟨t202, A240, H⟩ := H
            replace H : (if x3_1.size + t202.size ≤ 9223372036854775807 then (if (x3_1 ++ t202).size + 1 ≤ 9223372036854775807 then ((orielref25_digit.f (wrap64 (Int.tdiv (wrap64 (bt a0 x4_1)) 16))).bind fun t203 => (if ((x3_1 ++ t202) ++ (⟨#[120]⟩ : ByteArray)).size + t203.size ≤ 9223372036854775807 then ((orielref25_digit.f (Int.tmod (wrap64 (bt a0 x4_1)) 16)).bind fun t204 => (if (((x3_1 ++ t202) ++ (⟨#[120]⟩ : ByteArray)) ++ t203).size + t204.size ≤ 9223372036854775807 then (orielref25_Quote.l0 kj20 a0 ((((x3_1 ++ t202) ++ (⟨#[120]⟩ : ByteArray)) ++ t203) ++ t204) (wrap64 (x4_1 + 1))) else (none))) else (none))) else (none)) else (none)) = some r := H
            have A24 := Aside0.mk A240
            clear A240
            by_cases c25 : x3_1.size + t202.size ≤ 9223372036854775807
            ·rw [if_pos c25] at H
             have c25b0 := eq_true c25
             have c25b1 : decide (x3_1.size + t202.size ≤ 9223372036854775807) = true := decide_eq_true c25
             try have c25b2 : (9223372036854775807 < x3_1.size + t202.size) = False := eq_false (Nat.not_lt.2 c25)
             by_cases c26 : (x3_1 ++ t202).size + 1 ≤ 9223372036854775807
             ·rw [if_pos c26] at H
              have c26b0 := eq_true c26
              have c26b1 : decide ((x3_1 ++ t202).size + 1 ≤ 9223372036854775807) = true := decide_eq_true c26
              try have c26b2 : (9223372036854775807 < (x3_1 ++ t202).size + 1) = False := eq_false (Nat.not_lt.2 c26)
              try have c26b3 := c26b2
              try simp only [ByteArray.size_append, (show ∀ c : UInt8, (⟨#[c]⟩ : ByteArray).size = 1 from fun _ => rfl)] at c26b3
              replace H := Option.bind_eq_some_iff.mp H
              obtain ⟨t203, A270, H⟩ := H
              replace H : (if ((x3_1 ++ t202) ++ (⟨#[120]⟩ : ByteArray)).size + t203.size ≤ 9223372036854775807 then ((orielref25_digit.f (Int.tmod (wrap64 (bt a0 x4_1)) 16)).bind fun t204 => (if (((x3_1 ++ t202) ++ (⟨#[120]⟩ : ByteArray)) ++ t203).size + t204.size ≤ 9223372036854775807 then (orielref25_Quote.l0 kj20 a0 ((((x3_1 ++ t202) ++ (⟨#[120]⟩ : ByteArray)) ++ t203) ++ t204) (wrap64 (x4_1 + 1))) else (none))) else (none)) = some r := H
              have A27 := Aside0.mk A270
              clear A270
              by_cases c28 : ((x3_1 ++ t202) ++ (⟨#[120]⟩ : ByteArray)).size + t203.size ≤ 9223372036854775807
              ·rw [if_pos c28] at H
               have c28b0 := eq_true c28
               have c28b1 : decide (((x3_1 ++ t202) ++ (⟨#[120]⟩ : ByteArray)).size + t203.size ≤ 9223372036854775807) = true := decide_eq_true c28
               try have c28b2 : (9223372036854775807 < ((x3_1 ++ t202) ++ (⟨#[120]⟩ : ByteArray)).size + t203.size) = False := eq_false (Nat.not_lt.2 c28)
               try have c28b3 := c28b2
               try simp only [ByteArray.size_append, (show ∀ c : UInt8, (⟨#[c]⟩ : ByteArray).size = 1 from fun _ => rfl)] at c28b3
               replace H := Option.bind_eq_some_iff.mp H
               obtain ⟨t204, A290, H⟩ := H
               replace H : (if (((x3_1 ++ t202) ++ (⟨#[120]⟩ : ByteArray)) ++ t203).size + t204.size ≤ 9223372036854775807 then (orielref25_Quote.l0 kj20 a0 ((((x3_1 ++ t202) ++ (⟨#[120]⟩ : ByteArray)) ++ t203) ++ t204) (wrap64 (x4_1 + 1))) else (none)) = some r := H
               have A29 := Aside0.mk A290
               clear A290
               by_cases c30 : (((x3_1 ++ t202) ++ (⟨#[120]⟩ : ByteArray)) ++ t203).size + t204.size ≤ 9223372036854775807
               ·rw [if_pos c30] at H
                have c30b0 := eq_true c30
                have c30b1 : decide ((((x3_1 ++ t202) ++ (⟨#[120]⟩ : ByteArray)) ++ t203).size + t204.size ≤ 9223372036854775807) = true := decide_eq_true c30
                try have c30b2 : (9223372036854775807 < (((x3_1 ++ t202) ++ (⟨#[120]⟩ : ByteArray)) ++ t203).size + t204.size) = False := eq_false (Nat.not_lt.2 c30)
                try have c30b3 := c30b2
                try simp only [ByteArray.size_append, (show ∀ c : UInt8, (⟨#[c]⟩ : ByteArray).size = 1 from fun _ => rfl)] at c30b3
                have H' := Aside0.mk H
                clear H
                go_wp2_with (first | ((with_reducible refine gate_callee (f := 64) rfl ?_); refine goesL_ (some 42) rfl rfl Tryd.func64 (by kernel_rfl) rfl #[.int .i64 92] rfl (by (try simp only [List.map_toArray, List.map_cons, List.map_nil]); first | done | rfl | (simp only [List.length_drop, List.length_take]; rfl)) ?_; (with_reducible refine (orielref25_byteOf.calls 92 t202 _ A24.out).mono ?_); rintro e w31 ⟨rfl, hb⟩; refine ⟨_, rfl, ?_⟩; have n0_ := Aside0.mk (below_step (by repeat (first | (with_reducible first | exact HB.out | apply below_alloc | apply pw_below_drewN | apply below_drew1) | exact HB.out)) hb); clear HB; have HB := n0_; clear n0_; (try clear hb); (try clear hb2); (try clear hk); (try clear hi)) | ((with_reducible refine gate_callee (f := 65) rfl ?_); refine goesL_ (some 47) rfl rfl Tryd.func65 (by kernel_rfl) rfl #[.int .i64 (wrap64 (Int.tdiv (wrap64 (bt a0 x4_1)) 16))] rfl (by (try simp only [List.map_toArray, List.map_cons, List.map_nil]); first | done | rfl | (simp only [List.length_drop, List.length_take]; rfl)) ?_; (with_reducible refine (orielref25_digit.calls (wrap64 (Int.tdiv (wrap64 (bt a0 x4_1)) 16)) t203 _ A27.out).mono ?_); rintro e w32 ⟨rfl, hb⟩; refine ⟨_, rfl, ?_⟩; have n0_ := Aside0.mk (below_step (by repeat (first | (with_reducible first | exact HB.out | apply below_alloc | apply pw_below_drewN | apply below_drew1) | exact HB.out)) hb); clear HB; have HB := n0_; clear n0_; (try clear hb); (try clear hb2); (try clear hk); (try clear hi)) | ((with_reducible refine gate_callee (f := 65) rfl ?_); refine goesL_ (some 51) rfl rfl Tryd.func65 (by kernel_rfl) rfl #[.int .i64 (Int.tmod (wrap64 (bt a0 x4_1)) 16)] rfl (by (try simp only [List.map_toArray, List.map_cons, List.map_nil]); first | done | rfl | (simp only [List.length_drop, List.length_take]; rfl)) ?_; (with_reducible refine (orielref25_digit.calls (Int.tmod (wrap64 (bt a0 x4_1)) 16) t204 _ A29.out).mono ?_); rintro e w33 ⟨rfl, hb⟩; refine ⟨_, rfl, ?_⟩; have n0_ := Aside0.mk (below_step (by repeat (first | (with_reducible first | exact HB.out | apply below_alloc | apply pw_below_drewN | apply below_drew1) | exact HB.out)) hb); clear HB; have HB := n0_; clear n0_; (try clear hb); (try clear hb2); (try clear hk); (try clear hi)))
                go_roundg kj20
                case measure => have := HK1.out; have := HJ6.out; have := HJ20.out; omega
                case rel => exact ⟨((((x3_1 ++ t202) ++ (⟨#[120]⟩ : ByteArray)) ++ t203) ++ t204), (wrap64 (x4_1 + 1)), (by first | rfl | (simp; done) | (simp [*]; done)), (by first | rfl | (simp; done) | (simp [*]; done)), H', ⟨by have := HK1.out; have := HJ6.out; have := HJ20.out; omega⟩, ⟨by repeat (first | (with_reducible first | exact HB.out | apply below_alloc | apply pw_below_drewN | apply below_drew1) | exact HB.out)⟩⟩
               ·rw [if_neg c30] at H
                exact absurd H (by simp)
              ·rw [if_neg c28] at H
               exact absurd H (by simp)
             ·rw [if_neg c26] at H
              exact absurd H (by simp)
            ·rw [if_neg c25] at H
             exact absurd H (by simp)
           ·replace c23 := Bool.eq_false_iff.mpr c23
            subst c23
            have H1 : ((orielref25_byteOf.f (wrap64 (bt a0 x4_1))).bind fun t205 => (if x3_1.size + t205.size ≤ 9223372036854775807 then (orielref25_Quote.l0 kj20 a0 (x3_1 ++ t205) (wrap64 (x4_1 + 1))) else (none))) = some r := by rw [if_neg (show ¬ (false = true) by decide)] at H; exact H
            clear H
            have H := H1
            clear H1
            replace H := Option.bind_eq_some_iff.mp H
            obtain ⟨t205, A340, H⟩ := H
            replace H : (if x3_1.size + t205.size ≤ 9223372036854775807 then (orielref25_Quote.l0 kj20 a0 (x3_1 ++ t205) (wrap64 (x4_1 + 1))) else (none)) = some r := H
            have A34 := Aside0.mk A340
            clear A340
            by_cases c35 : x3_1.size + t205.size ≤ 9223372036854775807
            ·rw [if_pos c35] at H
             have c35b0 := eq_true c35
             have c35b1 : decide (x3_1.size + t205.size ≤ 9223372036854775807) = true := decide_eq_true c35
             try have c35b2 : (9223372036854775807 < x3_1.size + t205.size) = False := eq_false (Nat.not_lt.2 c35)
             have H' := Aside0.mk H
             clear H
             go_wp2_with (first | ((with_reducible refine gate_callee (f := 64) rfl ?_); refine goesL_ (some 55) rfl rfl Tryd.func64 (by kernel_rfl) rfl #[.int .i64 (wrap64 (bt a0 x4_1))] rfl (by (try simp only [List.map_toArray, List.map_cons, List.map_nil]); first | done | rfl | (simp only [List.length_drop, List.length_take]; rfl)) ?_; (with_reducible refine (orielref25_byteOf.calls (wrap64 (bt a0 x4_1)) t205 _ A34.out).mono ?_); rintro e w36 ⟨rfl, hb⟩; refine ⟨_, rfl, ?_⟩; have n0_ := Aside0.mk (below_step (by repeat (first | (with_reducible first | exact HB.out | apply below_alloc | apply pw_below_drewN | apply below_drew1) | exact HB.out)) hb); clear HB; have HB := n0_; clear n0_; (try clear hb); (try clear hb2); (try clear hk); (try clear hi)))
             go_roundg kj20
             case measure => have := HK1.out; have := HJ6.out; have := HJ20.out; omega
             case rel => exact ⟨(x3_1 ++ t205), (wrap64 (x4_1 + 1)), (by first | rfl | (simp; done) | (simp [*]; done)), (by first | rfl | (simp; done) | (simp [*]; done)), H', ⟨by have := HK1.out; have := HJ6.out; have := HJ20.out; omega⟩, ⟨by repeat (first | (with_reducible first | exact HB.out | apply below_alloc | apply pw_below_drewN | apply below_drew1) | exact HB.out)⟩⟩
            ·rw [if_neg c35] at H
             exact absurd H (by simp)
    ·rw [if_neg c5] at H
     exact absurd H (by simp)
   ·rw [if_neg c4] at H
    have c4b0 : decide (x4_1 < (a0.size : Int)) = false := decide_eq_false c4
    clear c4
    replace H := Option.bind_eq_some_iff.mp H
    obtain ⟨t198, A370, H⟩ := H
    replace H : (if x3_1.size + t198.size ≤ 9223372036854775807 then (some (x3_1 ++ t198)) else (none)) = some r := H
    have A37 := Aside0.mk A370
    clear A370
    by_cases c38 : x3_1.size + t198.size ≤ 9223372036854775807
    ·rw [if_pos c38] at H
     have c38b0 := eq_true c38
     have c38b1 : decide (x3_1.size + t198.size ≤ 9223372036854775807) = true := decide_eq_true c38
     try have c38b2 : (9223372036854775807 < x3_1.size + t198.size) = False := eq_false (Nat.not_lt.2 c38)
     obtain rfl := Option.some.inj H
     go_wp2_with (first | ((with_reducible refine gate_callee (f := 64) rfl ?_); refine goesL_ (some 58) rfl rfl Tryd.func64 (by kernel_rfl) rfl #[.int .i64 34] rfl (by (try simp only [List.map_toArray, List.map_cons, List.map_nil]); first | done | rfl | (simp only [List.length_drop, List.length_take]; rfl)) ?_; (with_reducible refine (orielref25_byteOf.calls 34 t198 _ A37.out).mono ?_); rintro e w39 ⟨rfl, hb⟩; refine ⟨_, rfl, ?_⟩; have n0_ := Aside0.mk (below_step (by repeat (first | (with_reducible first | exact HB.out | apply below_alloc | apply pw_below_drewN | apply below_drew1) | exact HB.out)) hb); clear HB; have HB := n0_; clear n0_; (try clear hb); (try clear hb2); (try clear hk); (try clear hi)))
     go_ret
     exact ⟨by first | rfl | (simp [errW_none, errW_some] <;> rfl) | (simp [*, errW_none, errW_some] <;> rfl), by repeat (first | (with_reducible first | exact HB.out | apply below_alloc | apply pw_below_drewN | apply below_drew1) | exact HB.out)⟩
    ·rw [if_neg c38] at H
     exact absurd H (by simp)
end Go.Proofs.YtnemooemifbbhaaDoor.PDT
