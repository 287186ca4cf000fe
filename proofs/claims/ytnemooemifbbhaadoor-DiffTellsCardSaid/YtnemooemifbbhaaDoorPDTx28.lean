-- Written by ownprint.py, a program of this session (out of the kit's print, with contracts of the session's own).
import Derived.Test.YtnemooemifbbhaaDoorPDTx0
import Derived.Test.YtnemooemifbbhaaDoorPDTx20
import Derived.Test.YtnemooemifbbhaaDoorPDTx27
namespace Go.Proofs.YtnemooemifbbhaaDoor.PDT
open Go.RowKit Go.Proofs.YtnemooemifbbhaaDoorW.PrintWords Go.Proofs.YtnemooemifbbhaaDoorW.PrintLast Go.Proofs.YtnemooemifbbhaaDoorW.PrintMore
attribute [local go_sem] max2_int min2_int max_two min_two max_three min_three max_four min_four   -- for this text's walks alone
set_option linter.unusedVariables false
set_option linter.unusedSimpArgs false
def bz28_ (n m : Nat) : Array Bool := ((List.range n).map fun i => m.testBit i).toArray
/-! ### orielref27_Tell: function 29 -/
def orielref27_Tell.l0 : Nat → List (S56) → ByteArray → Int → Option (ByteArray)
 | 0, _, _, _ => none
 | k + 1, x0, x3, x4 => if x4 < (x0.length : Int) then (if 0 ≤ x4 then ((orielref25_Dec.f k ((rd_T56 x0 x4).f0)).bind fun t245 => (if x3.size + t245.size ≤ 9223372036854775807 then (if (x3 ++ t245).size + 1 ≤ 9223372036854775807 then ((orielref25_Dec.f k ((rd_T56 x0 x4).f1)).bind fun t247 => (if ((x3 ++ t245) ++ (⟨#[32]⟩ : ByteArray)).size + t247.size ≤ 9223372036854775807 then (if (((x3 ++ t245) ++ (⟨#[32]⟩ : ByteArray)) ++ t247).size + 1 ≤ 9223372036854775807 then ((orielref25_Quote.f k ((rd_T56 x0 x4).f2)).bind fun t249 => (if ((((x3 ++ t245) ++ (⟨#[32]⟩ : ByteArray)) ++ t247) ++ (⟨#[32]⟩ : ByteArray)).size + t249.size ≤ 9223372036854775807 then ((some (([10] : List Int) : List Int)).bind fun y250 => (if (((((x3 ++ t245) ++ (⟨#[32]⟩ : ByteArray)) ++ t247) ++ (⟨#[32]⟩ : ByteArray)) ++ t249).size + (strOfNums y250).size ≤ 9223372036854775807 then (orielref27_Tell.l0 k x0 ((((((x3 ++ t245) ++ (⟨#[32]⟩ : ByteArray)) ++ t247) ++ (⟨#[32]⟩ : ByteArray)) ++ t249) ++ (strOfNums y250)) (wrap64 (x4 + 1))) else (none))) else (none))) else (none)) else (none))) else (none)) else (none))) else (none)) else (some x3)
def orielref27_Tell.f (k : Nat) (l0 : List (S56)) : Option (ByteArray) := orielref27_Tell.l0 k l0 (⟨#[]⟩ : ByteArray) 0
theorem orielref27_Tell.mono_l : ∀ k, (∀ y0 y1 y2, LeO (orielref27_Tell.l0 k y0 y1 y2) (orielref27_Tell.l0 (k + 1) y0 y1 y2))
 | 0 => fun _ _ _ r h => by simp [orielref27_Tell.l0] at h
 | k + 1 => by
  have ih0 := orielref27_Tell.mono_l k
  ·intro y0 y1 y2
   unfold orielref27_Tell.l0
   repeat' first
   | (with_reducible exact ih0 _ _ _)
   | (with_reducible exact orielref25_Dec.mono _ _)
   | (with_reducible exact orielref25_Quote.mono _ _)
   | (with_reducible exact LeO.refl _)
   | (with_reducible exact LeO.none _)
   | (with_reducible refine LeO.ite ?_ ?_)
   | (with_reducible refine LeO.bind ?_ (fun _ => ?_))
   | exact ih0 _ _ _
   | exact orielref25_Dec.mono _ _
   | exact orielref25_Quote.mono _ _
   | exact LeO.none _
   | refine LeO.ite ?_ ?_
   | refine LeO.bind ?_ (fun _ => ?_)
theorem orielref27_Tell.mono : ∀ a0 k, LeO (orielref27_Tell.f k a0) (orielref27_Tell.f (k + 1) a0) := by
 intro a0 k
 have ih0 := orielref27_Tell.mono_l k
 unfold orielref27_Tell.f
 repeat' first
   | (with_reducible exact ih0 _ _ _)
   | (with_reducible exact orielref25_Dec.mono _ _)
   | (with_reducible exact orielref25_Quote.mono _ _)
   | (with_reducible exact LeO.refl _)
   | (with_reducible exact LeO.none _)
   | (with_reducible refine LeO.ite ?_ ?_)
   | (with_reducible refine LeO.bind ?_ (fun _ => ?_))
   | exact ih0 _ _ _
   | exact orielref25_Dec.mono _ _
   | exact orielref25_Quote.mono _ _
   | exact LeO.none _
   | refine LeO.ite ?_ ?_
   | refine LeO.bind ?_ (fun _ => ?_)
def orielref27_Tell.T5 : Bool × List (List Nat × List Nat) := (true, [([], []), ([], []), ([], []), ([1, 2], [1, 2]), ([3], [3]), ([4], [4]), ([5], [5]), ([0, 6], [0, 6]), ([7], [7]), ([], []), ([], []), ([9, 10], [9, 10]), ([11], [11]), ([12], [12]), ([13, 6], [13]), ([8, 14], [8, 14]), ([15], [15]), ([], []), ([], []), ([17, 18], [17, 18]), ([19], [19]), ([20], [20]), ([21, 14], [21]), ([16, 22], [16, 22]), ([], []), ([24], [24]), ([23, 25], [23, 25]), ([26, 22, 0, 1, 2, 3, 4, 5, 6, 7, 8, 9, 10, 11, 12, 13, 14, 15, 16, 17, 18, 19, 20, 21, 22, 23, 24, 25, 26], [0, 26])])
def orielref27_Tell.B5 : List Nat := [0, 0, 0, 6, 14, 30, 62, 127, 255, 0, 0, 1536, 3584, 7680, 15998, 32767, 65535, 0, 0, 393216, 917504, 1966080, 4095614, 8388607, 0, 16777216, 67108863, 134217727]
theorem orielref27_Tell.tab5 : rtab .any (opsOf Tryd.f29 5) = orielref27_Tell.T5 := by kernel_rfl
theorem orielref27_Tell.bits5 : waitsOk orielref27_Tell.T5.2 orielref27_Tell.B5 = true := by kernel_rfl
set_option maxHeartbeats 8000000 in
set_option maxRecDepth 100000 in
theorem orielref27_Tell.calls (k : Nat) (A0 : Option Addr) (c0 : Nat) (l0 : List (S56)) (r : ByteArray) (w : World) (hr0 : Kd.C k56 w A0 l0.length l0) (hc0 : l0.length ≤ c0) (h : orielref27_Tell.f k l0 = some r) :
  Calls Tryd.prog 29 #[.slice A0 l0.length c0] w fun e w' => e = .returned (.string r) ∧ Below w.heap.size w w' := by
 have HR0 := Aside0.mk hr0
 have HC0 := Aside0.mk hc0
 clear hr0 hc0
 have HB := Aside0.mk (Below.refl w.heap.size w)
 have H : (orielref27_Tell.l0 k l0 (⟨#[]⟩ : ByteArray) 0) = some r := h
 clear h
 have H' := Aside0.mk H
 clear H
 go_enter Tryd.func29, Tryd.ntmps29
 go_wp2
 go_loopg [3, 4] k (fun kq v3 v4 w' => ∃ (x3_1 : ByteArray) (x4_1 : Int), v3 = .string x3_1 ∧ v4 = .int .i64 x4_1 ∧ Aside0 (orielref27_Tell.l0 kq l0 x3_1 x4_1 = some r) ∧ Aside0 (kq ≤ k) ∧ Aside0 (Below w.heap.size w w'))
 case atStart => exact ⟨((⟨#[]⟩ : ByteArray)), (0), (by first | rfl | (simp; done) | (simp [*]; done)), (by first | rfl | (simp; done) | (simp [*]; done)), H', ⟨Nat.le_refl _⟩, ⟨by exact HB.out⟩⟩
 case round =>
  clear H'
  obtain ⟨x3_1, x4_1, rfl, rfl, HA, HK1, HB⟩ := hrel
  cases gk with
  | zero => exact absurd HA.out (by simp [orielref27_Tell.l0])
  | succ k1 =>
   have H := HA.out
   clear HA
   simp only [orielref27_Tell.l0] at H
   by_cases c2 : x4_1 < (l0.length : Int)
   ·rw [if_pos c2] at H
    have c2b0 : decide (x4_1 < (l0.length : Int)) = true := decide_eq_true c2
    clear c2
    by_cases c3 : 0 ≤ x4_1
    ·rw [if_pos c3] at H
     have c3b0 : decide (0 ≤ x4_1) = true := decide_eq_true c3
     clear c3
     replace H := Option.bind_eq_some_iff.mp H
     obtain ⟨t245, A40, H⟩ := H
     replace H : (if x3_1.size + t245.size ≤ 9223372036854775807 then (if (x3_1 ++ t245).size + 1 ≤ 9223372036854775807 then ((orielref25_Dec.f k1 ((rd_T56 l0 x4_1).f1)).bind fun t247 => (if ((x3_1 ++ t245) ++ (⟨#[32]⟩ : ByteArray)).size + t247.size ≤ 9223372036854775807 then (if (((x3_1 ++ t245) ++ (⟨#[32]⟩ : ByteArray)) ++ t247).size + 1 ≤ 9223372036854775807 then ((orielref25_Quote.f k1 ((rd_T56 l0 x4_1).f2)).bind fun t249 => (if ((((x3_1 ++ t245) ++ (⟨#[32]⟩ : ByteArray)) ++ t247) ++ (⟨#[32]⟩ : ByteArray)).size + t249.size ≤ 9223372036854775807 then ((some (([10] : List Int) : List Int)).bind fun y250 => (if (((((x3_1 ++ t245) ++ (⟨#[32]⟩ : ByteArray)) ++ t247) ++ (⟨#[32]⟩ : ByteArray)) ++ t249).size + (strOfNums y250).size ≤ 9223372036854775807 then (orielref27_Tell.l0 k1 l0 ((((((x3_1 ++ t245) ++ (⟨#[32]⟩ : ByteArray)) ++ t247) ++ (⟨#[32]⟩ : ByteArray)) ++ t249) ++ (strOfNums y250)) (wrap64 (x4_1 + 1))) else (none))) else (none))) else (none)) else (none))) else (none)) else (none)) = some r := H
     have A4 := Aside0.mk A40
     clear A40
     by_cases c5 : x3_1.size + t245.size ≤ 9223372036854775807
     ·rw [if_pos c5] at H
      have c5b0 := eq_true c5
      have c5b1 : decide (x3_1.size + t245.size ≤ 9223372036854775807) = true := decide_eq_true c5
      try have c5b2 : (9223372036854775807 < x3_1.size + t245.size) = False := eq_false (Nat.not_lt.2 c5)
      by_cases c6 : (x3_1 ++ t245).size + 1 ≤ 9223372036854775807
      ·rw [if_pos c6] at H
       have c6b0 := eq_true c6
       have c6b1 : decide ((x3_1 ++ t245).size + 1 ≤ 9223372036854775807) = true := decide_eq_true c6
       try have c6b2 : (9223372036854775807 < (x3_1 ++ t245).size + 1) = False := eq_false (Nat.not_lt.2 c6)
       try have c6b3 := c6b2
       try simp only [ByteArray.size_append, (show ∀ c : UInt8, (⟨#[c]⟩ : ByteArray).size = 1 from fun _ => rfl)] at c6b3
       replace H := Option.bind_eq_some_iff.mp H
       obtain ⟨t247, A70, H⟩ := H
       replace H : (if ((x3_1 ++ t245) ++ (⟨#[32]⟩ : ByteArray)).size + t247.size ≤ 9223372036854775807 then (if (((x3_1 ++ t245) ++ (⟨#[32]⟩ : ByteArray)) ++ t247).size + 1 ≤ 9223372036854775807 then ((orielref25_Quote.f k1 ((rd_T56 l0 x4_1).f2)).bind fun t249 => (if ((((x3_1 ++ t245) ++ (⟨#[32]⟩ : ByteArray)) ++ t247) ++ (⟨#[32]⟩ : ByteArray)).size + t249.size ≤ 9223372036854775807 then ((some (([10] : List Int) : List Int)).bind fun y250 => (if (((((x3_1 ++ t245) ++ (⟨#[32]⟩ : ByteArray)) ++ t247) ++ (⟨#[32]⟩ : ByteArray)) ++ t249).size + (strOfNums y250).size ≤ 9223372036854775807 then (orielref27_Tell.l0 k1 l0 ((((((x3_1 ++ t245) ++ (⟨#[32]⟩ : ByteArray)) ++ t247) ++ (⟨#[32]⟩ : ByteArray)) ++ t249) ++ (strOfNums y250)) (wrap64 (x4_1 + 1))) else (none))) else (none))) else (none)) else (none)) = some r := H
       have A7 := Aside0.mk A70
       clear A70
       by_cases c8 : ((x3_1 ++ t245) ++ (⟨#[32]⟩ : ByteArray)).size + t247.size ≤ 9223372036854775807
       ·rw [if_pos c8] at H
        have c8b0 := eq_true c8
        have c8b1 : decide (((x3_1 ++ t245) ++ (⟨#[32]⟩ : ByteArray)).size + t247.size ≤ 9223372036854775807) = true := decide_eq_true c8
        try have c8b2 : (9223372036854775807 < ((x3_1 ++ t245) ++ (⟨#[32]⟩ : ByteArray)).size + t247.size) = False := eq_false (Nat.not_lt.2 c8)
        try have c8b3 := c8b2
        try simp only [ByteArray.size_append, (show ∀ c : UInt8, (⟨#[c]⟩ : ByteArray).size = 1 from fun _ => rfl)] at c8b3
        by_cases c9 : (((x3_1 ++ t245) ++ (⟨#[32]⟩ : ByteArray)) ++ t247).size + 1 ≤ 9223372036854775807
        ·rw [if_pos c9] at H
         have c9b0 := eq_true c9
         have c9b1 : decide ((((x3_1 ++ t245) ++ (⟨#[32]⟩ : ByteArray)) ++ t247).size + 1 ≤ 9223372036854775807) = true := decide_eq_true c9
         try have c9b2 : (9223372036854775807 < (((x3_1 ++ t245) ++ (⟨#[32]⟩ : ByteArray)) ++ t247).size + 1) = False := eq_false (Nat.not_lt.2 c9)
         try have c9b3 := c9b2
         try simp only [ByteArray.size_append, (show ∀ c : UInt8, (⟨#[c]⟩ : ByteArray).size = 1 from fun _ => rfl)] at c9b3
         replace H := Option.bind_eq_some_iff.mp H
         obtain ⟨t249, A100, H⟩ := H
         replace H : (if ((((x3_1 ++ t245) ++ (⟨#[32]⟩ : ByteArray)) ++ t247) ++ (⟨#[32]⟩ : ByteArray)).size + t249.size ≤ 9223372036854775807 then ((some (([10] : List Int) : List Int)).bind fun y250 => (if (((((x3_1 ++ t245) ++ (⟨#[32]⟩ : ByteArray)) ++ t247) ++ (⟨#[32]⟩ : ByteArray)) ++ t249).size + (strOfNums y250).size ≤ 9223372036854775807 then (orielref27_Tell.l0 k1 l0 ((((((x3_1 ++ t245) ++ (⟨#[32]⟩ : ByteArray)) ++ t247) ++ (⟨#[32]⟩ : ByteArray)) ++ t249) ++ (strOfNums y250)) (wrap64 (x4_1 + 1))) else (none))) else (none)) = some r := H
         have A10 := Aside0.mk A100
         clear A100
         by_cases c11 : ((((x3_1 ++ t245) ++ (⟨#[32]⟩ : ByteArray)) ++ t247) ++ (⟨#[32]⟩ : ByteArray)).size + t249.size ≤ 9223372036854775807
         ·rw [if_pos c11] at H
          have c11b0 := eq_true c11
          have c11b1 : decide (((((x3_1 ++ t245) ++ (⟨#[32]⟩ : ByteArray)) ++ t247) ++ (⟨#[32]⟩ : ByteArray)).size + t249.size ≤ 9223372036854775807) = true := decide_eq_true c11
          try have c11b2 : (9223372036854775807 < ((((x3_1 ++ t245) ++ (⟨#[32]⟩ : ByteArray)) ++ t247) ++ (⟨#[32]⟩ : ByteArray)).size + t249.size) = False := eq_false (Nat.not_lt.2 c11)
          try have c11b3 := c11b2
          try simp only [ByteArray.size_append, (show ∀ c : UInt8, (⟨#[c]⟩ : ByteArray).size = 1 from fun _ => rfl)] at c11b3
          obtain ⟨y250, hy250⟩ : ∃ y_ : List Int, y_ = (([10] : List Int)) := ⟨_, rfl⟩
          replace H : (if (((((x3_1 ++ t245) ++ (⟨#[32]⟩ : ByteArray)) ++ t247) ++ (⟨#[32]⟩ : ByteArray)) ++ t249).size + (strOfNums y250).size ≤ 9223372036854775807 then (orielref27_Tell.l0 k1 l0 ((((((x3_1 ++ t245) ++ (⟨#[32]⟩ : ByteArray)) ++ t247) ++ (⟨#[32]⟩ : ByteArray)) ++ t249) ++ (strOfNums y250)) (wrap64 (x4_1 + 1))) else (none)) = some r := by first | (rw [hy250]; with_reducible exact H) | (have H2_ := (Option.bind_some _ _).symm.trans H; rw [hy250]; with_reducible exact H2_) | (have H2_ := (Option.bind_some _ _).symm.trans H; with_reducible exact H2_) | with_reducible exact H | (rw [hy250]; exact H) | exact H
          have Ny250 := Aside0.mk hy250
          clear hy250
          by_cases c12 : (((((x3_1 ++ t245) ++ (⟨#[32]⟩ : ByteArray)) ++ t247) ++ (⟨#[32]⟩ : ByteArray)) ++ t249).size + (strOfNums y250).size ≤ 9223372036854775807
          ·rw [if_pos c12] at H
           have c12b0 := eq_true c12
           have c12b1 : decide ((((((x3_1 ++ t245) ++ (⟨#[32]⟩ : ByteArray)) ++ t247) ++ (⟨#[32]⟩ : ByteArray)) ++ t249).size + (strOfNums y250).size ≤ 9223372036854775807) = true := decide_eq_true c12
           try have c12b2 : (9223372036854775807 < (((((x3_1 ++ t245) ++ (⟨#[32]⟩ : ByteArray)) ++ t247) ++ (⟨#[32]⟩ : ByteArray)) ++ t249).size + (strOfNums y250).size) = False := eq_false (Nat.not_lt.2 c12)
           try have c12b3 := c12b2
           try simp only [ByteArray.size_append, (show ∀ c : UInt8, (⟨#[c]⟩ : ByteArray).size = 1 from fun _ => rfl)] at c12b3
           have H' := Aside0.mk H
           clear H
           try go_wp2
           have n0_ := Aside0.mk (below_drew1 HB.out)
           clear HB
           have HB := n0_
           clear n0_
           have p244 : 0 ≤ (x4_1 : Int) := of_decide_eq_true (by first | (with_reducible assumption) | assumption)
           have q244 : x4_1 < (l0.length : Int) := of_decide_eq_true (by first | (with_reducible assumption) | assumption)
           obtain ⟨ad244, e244, hx244_0, hx244_1, hx244_2⟩ := at_T56 HR0.out x4_1 p244 q244
           have hw244_2 := hx244_2
           have hw244_1 := hx244_1
           have hw244_0 := hx244_0
           cases e244
           replace hx244_0 := (HB.out.cell (World.block_lt_of_cell? w _ hx244_0)).trans hx244_0
           replace hx244_1 := (HB.out.cell (World.block_lt_of_cell? w _ hx244_1)).trans hx244_1
           replace hx244_2 := (HB.out.cell (World.block_lt_of_cell? w _ hx244_2)).trans hx244_2
           replace p244 := eq_true p244
           replace q244 := eq_true q244
           have p246 : 0 ≤ (x4_1 : Int) := of_decide_eq_true (by first | (with_reducible assumption) | assumption)
           have q246 : x4_1 < (l0.length : Int) := of_decide_eq_true (by first | (with_reducible assumption) | assumption)
           obtain ⟨ad246, e246, hx246_0, hx246_1, hx246_2⟩ := at_T56 HR0.out x4_1 p246 q246
           have hw246_2 := hx246_2
           have hw246_1 := hx246_1
           have hw246_0 := hx246_0
           obtain rfl : ad244 = ad246 := (by injection e246)
           replace hx246_0 := (HB.out.cell (World.block_lt_of_cell? w _ hx246_0)).trans hx246_0
           replace hx246_1 := (HB.out.cell (World.block_lt_of_cell? w _ hx246_1)).trans hx246_1
           replace hx246_2 := (HB.out.cell (World.block_lt_of_cell? w _ hx246_2)).trans hx246_2
           replace p246 := eq_true p246
           replace q246 := eq_true q246
           have p248 : 0 ≤ (x4_1 : Int) := of_decide_eq_true (by first | (with_reducible assumption) | assumption)
           have q248 : x4_1 < (l0.length : Int) := of_decide_eq_true (by first | (with_reducible assumption) | assumption)
           obtain ⟨ad248, e248, hx248_0, hx248_1, hx248_2⟩ := at_T56 HR0.out x4_1 p248 q248
           have hw248_2 := hx248_2
           have hw248_1 := hx248_1
           have hw248_0 := hx248_0
           obtain rfl : ad244 = ad248 := (by injection e248)
           replace hx248_0 := (HB.out.cell (World.block_lt_of_cell? w _ hx248_0)).trans hx248_0
           replace hx248_1 := (HB.out.cell (World.block_lt_of_cell? w _ hx248_1)).trans hx248_1
           replace hx248_2 := (HB.out.cell (World.block_lt_of_cell? w _ hx248_2)).trans hx248_2
           replace p248 := eq_true p248
           replace q248 := eq_true q248
           refine start_ (n := 28) (S := fun w' => w'.cell? (ad244.add ((x4_1).toNat * 3)) = some (.int .i64 ((rd_T56 l0 x4_1).f0)) ∧ w'.cell? ⟨(ad244.add ((x4_1).toNat * 3)).block, (ad244.add ((x4_1).toNat * 3)).off + 1, none⟩ = some (.int .i64 ((rd_T56 l0 x4_1).f1)) ∧ w'.cell? ⟨(ad244.add ((x4_1).toNat * 3)).block, (ad244.add ((x4_1).toNat * 3)).off + 2, none⟩ = some (.string ((rd_T56 l0 x4_1).f2)) ∧ w'.cell? (ad244.add ((x4_1).toNat * 3)) = some (.int .i64 ((rd_T56 l0 x4_1).f0)) ∧ w'.cell? ⟨(ad244.add ((x4_1).toNat * 3)).block, (ad244.add ((x4_1).toNat * 3)).off + 1, none⟩ = some (.int .i64 ((rd_T56 l0 x4_1).f1)) ∧ w'.cell? ⟨(ad244.add ((x4_1).toNat * 3)).block, (ad244.add ((x4_1).toNat * 3)).off + 2, none⟩ = some (.string ((rd_T56 l0 x4_1).f2)) ∧ w'.cell? (ad244.add ((x4_1).toNat * 3)) = some (.int .i64 ((rd_T56 l0 x4_1).f0)) ∧ w'.cell? ⟨(ad244.add ((x4_1).toNat * 3)).block, (ad244.add ((x4_1).toNat * 3)).off + 1, none⟩ = some (.int .i64 ((rd_T56 l0 x4_1).f1)) ∧ w'.cell? ⟨(ad244.add ((x4_1).toNat * 3)).block, (ad244.add ((x4_1).toNat * 3)).off + 2, none⟩ = some (.string ((rd_T56 l0 x4_1).f2))) (ds := []) #[false, false, false, false, false, false, false, false, false, false, false, false, false, false, false, false, false, false, false, false, false, false, false, false, false, false, false, false] (by kernel_rfl) rfl rfl ⟨((HB.out.cell (World.block_lt_of_cell? w _ hw244_0)).trans hw244_0), ((HB.out.cell (World.block_lt_of_cell? w _ hw244_1)).trans hw244_1), ((HB.out.cell (World.block_lt_of_cell? w _ hw244_2)).trans hw244_2), ((HB.out.cell (World.block_lt_of_cell? w _ hw246_0)).trans hw246_0), ((HB.out.cell (World.block_lt_of_cell? w _ hw246_1)).trans hw246_1), ((HB.out.cell (World.block_lt_of_cell? w _ hw246_2)).trans hw246_2), ((HB.out.cell (World.block_lt_of_cell? w _ hw248_0)).trans hw248_0), ((HB.out.cell (World.block_lt_of_cell? w _ hw248_1)).trans hw248_1), ((HB.out.cell (World.block_lt_of_cell? w _ hw248_2)).trans hw248_2)⟩ (fun hHeld => ?_); refine with_tabW orielref27_Tell.tab5 orielref27_Tell.bits5 (fun HT_ HW_ => ?_)
           generalize wr.drew = w13 at HB hx244_0 hx244_1 hx244_2 hx246_0 hx246_1 hx246_2 hx248_0 hx248_1 hx248_2 hHeld ⊢
           refine pure_ (i := 0) (N := some 11) (v := ?_) (a' := ?_) (bz28_ 28 1) rfl rfl (any_of HT_.out (by kernel_rfl)) (fun _ _ _ h => h) (Or.inl ⟨by rfl, ?_⟩) ?_ ?_
           rotate_left
           ·intro w'
            go_simp
            with_reducible rfl
           rotate_left
           ·simp only [Act.put, List.setIfInBounds_toArray, List.set_cons_zero, List.set_cons_succ, i64_w, i32_w]
            rfl
           refine pure_ (i := 1) (N := some 12) (v := ?_) (a' := ?_) (bz28_ 28 3) rfl rfl (any_of HT_.out (by kernel_rfl)) (fun _ _ _ h => h) (Or.inl ⟨by rfl, ?_⟩) ?_ ?_
           rotate_left
           ·intro w'
            go_simp
            with_reducible rfl
           rotate_left
           ·simp only [Act.put, List.setIfInBounds_toArray, List.set_cons_zero, List.set_cons_succ, i64_w, i32_w]
            rfl
           refine pure_ (i := 2) (N := some 13) (v := ?_) (a' := ?_) (bz28_ 28 7) rfl rfl (any_of HT_.out (by kernel_rfl)) (fun _ _ _ h => h) (Or.inl ⟨by rfl, ?_⟩) ?_ ?_
           rotate_left
           ·intro w'
            go_simp
            with_reducible rfl
           rotate_left
           ·simp only [Act.put, List.setIfInBounds_toArray, List.set_cons_zero, List.set_cons_succ, i64_w, i32_w]
            rfl
           refine pure_ (i := 3) (N := some 14) (v := ?_) (a' := ?_) (bz28_ 28 15) rfl rfl (any_of HT_.out (by kernel_rfl)) (fun _ _ _ h => h) (Or.inl ⟨by rfl, ?_⟩) ?_ ?_
           rotate_left
           ·intro w'
            go_simp
            with_reducible rfl
           rotate_left
           ·simp only [Act.put, List.setIfInBounds_toArray, List.set_cons_zero, List.set_cons_succ, i64_w, i32_w]
            rfl
           refine pure_ (i := 4) (N := some 15) (v := ?_) (a' := ?_) (bz28_ 28 31) rfl rfl (any_of HT_.out (by kernel_rfl)) (fun _ _ _ h => h) (Or.inl ⟨by rfl, ?_⟩) ?_ ?_
           rotate_left
           ·intro w'
            go_simp
            with_reducible rfl
           rotate_left
           ·simp only [Act.put, List.setIfInBounds_toArray, List.set_cons_zero, List.set_cons_succ, i64_w, i32_w]
            rfl
           refine pure_ (i := 9) (N := some 20) (v := ?_) (a' := ?_) (bz28_ 28 543) rfl rfl (any_of HT_.out (by kernel_rfl)) (fun _ _ _ h => h) (Or.inl ⟨by rfl, ?_⟩) ?_ ?_
           rotate_left
           ·intro w'
            go_simp
            with_reducible rfl
           rotate_left
           ·simp only [Act.put, List.setIfInBounds_toArray, List.set_cons_zero, List.set_cons_succ, i64_w, i32_w]
            rfl
           refine pure_ (i := 10) (N := some 21) (v := ?_) (a' := ?_) (bz28_ 28 1567) rfl rfl (any_of HT_.out (by kernel_rfl)) (fun _ _ _ h => h) (Or.inl ⟨by rfl, ?_⟩) ?_ ?_
           rotate_left
           ·intro w'
            go_simp
            with_reducible rfl
           rotate_left
           ·simp only [Act.put, List.setIfInBounds_toArray, List.set_cons_zero, List.set_cons_succ, i64_w, i32_w]
            rfl
           refine pure_ (i := 11) (N := some 22) (v := ?_) (a' := ?_) (bz28_ 28 3615) rfl rfl (any_of HT_.out (by kernel_rfl)) (fun _ _ _ h => h) (Or.inl ⟨by rfl, ?_⟩) ?_ ?_
           rotate_left
           ·intro w'
            go_simp
            with_reducible rfl
           rotate_left
           ·simp only [Act.put, List.setIfInBounds_toArray, List.set_cons_zero, List.set_cons_succ, i64_w, i32_w]
            rfl
           refine pure_ (i := 12) (N := some 23) (v := ?_) (a' := ?_) (bz28_ 28 7711) rfl rfl (any_of HT_.out (by kernel_rfl)) (fun _ _ _ h => h) (Or.inl ⟨by rfl, ?_⟩) ?_ ?_
           rotate_left
           ·intro w'
            go_simp
            with_reducible rfl
           rotate_left
           ·simp only [Act.put, List.setIfInBounds_toArray, List.set_cons_zero, List.set_cons_succ, i64_w, i32_w]
            rfl
           refine pure_ (i := 17) (N := some 28) (v := ?_) (a' := ?_) (bz28_ 28 138783) rfl rfl (any_of HT_.out (by kernel_rfl)) (fun _ _ _ h => h) (Or.inl ⟨by rfl, ?_⟩) ?_ ?_
           rotate_left
           ·intro w'
            go_simp
            with_reducible rfl
           rotate_left
           ·simp only [Act.put, List.setIfInBounds_toArray, List.set_cons_zero, List.set_cons_succ, i64_w, i32_w]
            rfl
           refine pure_ (i := 18) (N := some 29) (v := ?_) (a' := ?_) (bz28_ 28 400927) rfl rfl (any_of HT_.out (by kernel_rfl)) (fun _ _ _ h => h) (Or.inl ⟨by rfl, ?_⟩) ?_ ?_
           rotate_left
           ·intro w'
            go_simp
            with_reducible rfl
           rotate_left
           ·simp only [Act.put, List.setIfInBounds_toArray, List.set_cons_zero, List.set_cons_succ, i64_w, i32_w]
            rfl
           refine pure_ (i := 19) (N := some 30) (v := ?_) (a' := ?_) (bz28_ 28 925215) rfl rfl (any_of HT_.out (by kernel_rfl)) (fun _ _ _ h => h) (Or.inl ⟨by rfl, ?_⟩) ?_ ?_
           rotate_left
           ·intro w'
            go_simp
            with_reducible rfl
           rotate_left
           ·simp only [Act.put, List.setIfInBounds_toArray, List.set_cons_zero, List.set_cons_succ, i64_w, i32_w]
            rfl
           refine pure_ (i := 20) (N := some 31) (v := ?_) (a' := ?_) (bz28_ 28 1973791) rfl rfl (any_of HT_.out (by kernel_rfl)) (fun _ _ _ h => h) (Or.inl ⟨by rfl, ?_⟩) ?_ ?_
           rotate_left
           ·intro w'
            go_simp
            with_reducible rfl
           rotate_left
           ·simp only [Act.put, List.setIfInBounds_toArray, List.set_cons_zero, List.set_cons_succ, i64_w, i32_w]
            rfl
           refine take_ (i := 5) (N := some 16) (v := ?_) (a' := ?_) (bz28_ 28 1973823) rfl rfl (take_ofW HT_.out HW_.out (by kernel_rfl)) (fun _ _ _ h => h) (Or.inl ⟨by rfl, ?_⟩) hHeld ?_ ?_
           rotate_left
           ·rintro w' ⟨s0, s1, s2, s3, s4, s5, s6, s7, s8⟩
            go_simp
            with_reducible rfl
           rotate_left
           ·simp only [Act.put, List.setIfInBounds_toArray, List.set_cons_zero, List.set_cons_succ, i64_w, i32_w]
            rfl
           refine take_ (i := 13) (N := some 24) (v := ?_) (a' := ?_) (bz28_ 28 1982015) rfl rfl (take_ofW HT_.out HW_.out (by kernel_rfl)) (fun _ _ _ h => h) (Or.inl ⟨by rfl, ?_⟩) hHeld ?_ ?_
           rotate_left
           ·rintro w' ⟨s0, s1, s2, s3, s4, s5, s6, s7, s8⟩
            go_simp
            with_reducible rfl
           rotate_left
           ·simp only [Act.put, List.setIfInBounds_toArray, List.set_cons_zero, List.set_cons_succ, i64_w, i32_w]
            rfl
           refine take_ (i := 21) (N := some 32) (v := ?_) (a' := ?_) (bz28_ 28 4079167) rfl rfl (take_ofW HT_.out HW_.out (by kernel_rfl)) (fun _ _ _ h => h) (Or.inl ⟨by rfl, ?_⟩) hHeld ?_ ?_
           rotate_left
           ·rintro w' ⟨s0, s1, s2, s3, s4, s5, s6, s7, s8⟩
            go_simp
            with_reducible rfl
           rotate_left
           ·simp only [Act.put, List.setIfInBounds_toArray, List.set_cons_zero, List.set_cons_succ, i64_w, i32_w]
            rfl
           refine join_ (σ := Value) 2 (bz28_ 28 67108863) (fun s_ => [(17, .string t245), (25, .string t247), (33, .string t249), (35, s_), (36, .string (strOfNums y250)), (18, .string (x3_1 ++ t245)), (19, .string ((x3_1 ++ t245) ++ (⟨#[32]⟩ : ByteArray))), (26, .string (((x3_1 ++ t245) ++ (⟨#[32]⟩ : ByteArray)) ++ t247)), (27, .string ((((x3_1 ++ t245) ++ (⟨#[32]⟩ : ByteArray)) ++ t247) ++ (⟨#[32]⟩ : ByteArray))), (34, .string (((((x3_1 ++ t245) ++ (⟨#[32]⟩ : ByteArray)) ++ t247) ++ (⟨#[32]⟩ : ByteArray)) ++ t249))]) (fun s_ w' => (w'.cell? (ad244.add ((x4_1).toNat * 3)) = some (.int .i64 ((rd_T56 l0 x4_1).f0)) ∧ w'.cell? ⟨(ad244.add ((x4_1).toNat * 3)).block, (ad244.add ((x4_1).toNat * 3)).off + 1, none⟩ = some (.int .i64 ((rd_T56 l0 x4_1).f1)) ∧ w'.cell? ⟨(ad244.add ((x4_1).toNat * 3)).block, (ad244.add ((x4_1).toNat * 3)).off + 2, none⟩ = some (.string ((rd_T56 l0 x4_1).f2)) ∧ w'.cell? (ad244.add ((x4_1).toNat * 3)) = some (.int .i64 ((rd_T56 l0 x4_1).f0)) ∧ w'.cell? ⟨(ad244.add ((x4_1).toNat * 3)).block, (ad244.add ((x4_1).toNat * 3)).off + 1, none⟩ = some (.int .i64 ((rd_T56 l0 x4_1).f1)) ∧ w'.cell? ⟨(ad244.add ((x4_1).toNat * 3)).block, (ad244.add ((x4_1).toNat * 3)).off + 2, none⟩ = some (.string ((rd_T56 l0 x4_1).f2)) ∧ w'.cell? (ad244.add ((x4_1).toNat * 3)) = some (.int .i64 ((rd_T56 l0 x4_1).f0)) ∧ w'.cell? ⟨(ad244.add ((x4_1).toNat * 3)).block, (ad244.add ((x4_1).toNat * 3)).off + 1, none⟩ = some (.int .i64 ((rd_T56 l0 x4_1).f1)) ∧ w'.cell? ⟨(ad244.add ((x4_1).toNat * 3)).block, (ad244.add ((x4_1).toNat * 3)).off + 2, none⟩ = some (.string ((rd_T56 l0 x4_1).f2))) ∧ (Kd.R (Kd.int .u8) 5 w' w.heap.size (fun _ => True) s_ y250) ∧ (Below w.heap.size w w')) ?_ ?_
           rotate_left
           ·intro hJ6_14_22_24_25
            refine join_ (σ := Value) 3 (bz28_ 28 33554431) (fun s_ => [(17, .string t245), (25, .string t247), (33, .string t249), (35, s_), (18, .string (x3_1 ++ t245)), (19, .string ((x3_1 ++ t245) ++ (⟨#[32]⟩ : ByteArray))), (26, .string (((x3_1 ++ t245) ++ (⟨#[32]⟩ : ByteArray)) ++ t247)), (27, .string ((((x3_1 ++ t245) ++ (⟨#[32]⟩ : ByteArray)) ++ t247) ++ (⟨#[32]⟩ : ByteArray))), (34, .string (((((x3_1 ++ t245) ++ (⟨#[32]⟩ : ByteArray)) ++ t247) ++ (⟨#[32]⟩ : ByteArray)) ++ t249))]) (fun s_ w' => (w'.cell? (ad244.add ((x4_1).toNat * 3)) = some (.int .i64 ((rd_T56 l0 x4_1).f0)) ∧ w'.cell? ⟨(ad244.add ((x4_1).toNat * 3)).block, (ad244.add ((x4_1).toNat * 3)).off + 1, none⟩ = some (.int .i64 ((rd_T56 l0 x4_1).f1)) ∧ w'.cell? ⟨(ad244.add ((x4_1).toNat * 3)).block, (ad244.add ((x4_1).toNat * 3)).off + 2, none⟩ = some (.string ((rd_T56 l0 x4_1).f2)) ∧ w'.cell? (ad244.add ((x4_1).toNat * 3)) = some (.int .i64 ((rd_T56 l0 x4_1).f0)) ∧ w'.cell? ⟨(ad244.add ((x4_1).toNat * 3)).block, (ad244.add ((x4_1).toNat * 3)).off + 1, none⟩ = some (.int .i64 ((rd_T56 l0 x4_1).f1)) ∧ w'.cell? ⟨(ad244.add ((x4_1).toNat * 3)).block, (ad244.add ((x4_1).toNat * 3)).off + 2, none⟩ = some (.string ((rd_T56 l0 x4_1).f2)) ∧ w'.cell? (ad244.add ((x4_1).toNat * 3)) = some (.int .i64 ((rd_T56 l0 x4_1).f0)) ∧ w'.cell? ⟨(ad244.add ((x4_1).toNat * 3)).block, (ad244.add ((x4_1).toNat * 3)).off + 1, none⟩ = some (.int .i64 ((rd_T56 l0 x4_1).f1)) ∧ w'.cell? ⟨(ad244.add ((x4_1).toNat * 3)).block, (ad244.add ((x4_1).toNat * 3)).off + 2, none⟩ = some (.string ((rd_T56 l0 x4_1).f2))) ∧ (Kd.R (Kd.int .u8) 5 w' w.heap.size (fun _ => True) s_ y250) ∧ (Below w.heap.size w w')) ?_ ?_
            rotate_left
            ·intro hJ6_14_22_24
             refine join_ (σ := Value) 4 (bz28_ 28 54525951) (fun s_ => [(17, .string t245), (25, .string t247), (35, s_), (36, .string (strOfNums y250)), (18, .string (x3_1 ++ t245)), (19, .string ((x3_1 ++ t245) ++ (⟨#[32]⟩ : ByteArray))), (26, .string (((x3_1 ++ t245) ++ (⟨#[32]⟩ : ByteArray)) ++ t247)), (27, .string ((((x3_1 ++ t245) ++ (⟨#[32]⟩ : ByteArray)) ++ t247) ++ (⟨#[32]⟩ : ByteArray)))]) (fun s_ w' => (w'.cell? (ad244.add ((x4_1).toNat * 3)) = some (.int .i64 ((rd_T56 l0 x4_1).f0)) ∧ w'.cell? ⟨(ad244.add ((x4_1).toNat * 3)).block, (ad244.add ((x4_1).toNat * 3)).off + 1, none⟩ = some (.int .i64 ((rd_T56 l0 x4_1).f1)) ∧ w'.cell? ⟨(ad244.add ((x4_1).toNat * 3)).block, (ad244.add ((x4_1).toNat * 3)).off + 2, none⟩ = some (.string ((rd_T56 l0 x4_1).f2)) ∧ w'.cell? (ad244.add ((x4_1).toNat * 3)) = some (.int .i64 ((rd_T56 l0 x4_1).f0)) ∧ w'.cell? ⟨(ad244.add ((x4_1).toNat * 3)).block, (ad244.add ((x4_1).toNat * 3)).off + 1, none⟩ = some (.int .i64 ((rd_T56 l0 x4_1).f1)) ∧ w'.cell? ⟨(ad244.add ((x4_1).toNat * 3)).block, (ad244.add ((x4_1).toNat * 3)).off + 2, none⟩ = some (.string ((rd_T56 l0 x4_1).f2)) ∧ w'.cell? (ad244.add ((x4_1).toNat * 3)) = some (.int .i64 ((rd_T56 l0 x4_1).f0)) ∧ w'.cell? ⟨(ad244.add ((x4_1).toNat * 3)).block, (ad244.add ((x4_1).toNat * 3)).off + 1, none⟩ = some (.int .i64 ((rd_T56 l0 x4_1).f1)) ∧ w'.cell? ⟨(ad244.add ((x4_1).toNat * 3)).block, (ad244.add ((x4_1).toNat * 3)).off + 2, none⟩ = some (.string ((rd_T56 l0 x4_1).f2))) ∧ (Kd.R (Kd.int .u8) 5 w' w.heap.size (fun _ => True) s_ y250) ∧ (Below w.heap.size w w')) ?_ ?_
             rotate_left
             ·intro hJ6_14_24_25
              refine join_ (σ := Unit) 4 (bz28_ 28 16777215) (fun s_ => [(17, .string t245), (25, .string t247), (33, .string t249), (18, .string (x3_1 ++ t245)), (19, .string ((x3_1 ++ t245) ++ (⟨#[32]⟩ : ByteArray))), (26, .string (((x3_1 ++ t245) ++ (⟨#[32]⟩ : ByteArray)) ++ t247)), (27, .string ((((x3_1 ++ t245) ++ (⟨#[32]⟩ : ByteArray)) ++ t247) ++ (⟨#[32]⟩ : ByteArray))), (34, .string (((((x3_1 ++ t245) ++ (⟨#[32]⟩ : ByteArray)) ++ t247) ++ (⟨#[32]⟩ : ByteArray)) ++ t249))]) (fun s_ w' => (w'.cell? (ad244.add ((x4_1).toNat * 3)) = some (.int .i64 ((rd_T56 l0 x4_1).f0)) ∧ w'.cell? ⟨(ad244.add ((x4_1).toNat * 3)).block, (ad244.add ((x4_1).toNat * 3)).off + 1, none⟩ = some (.int .i64 ((rd_T56 l0 x4_1).f1)) ∧ w'.cell? ⟨(ad244.add ((x4_1).toNat * 3)).block, (ad244.add ((x4_1).toNat * 3)).off + 2, none⟩ = some (.string ((rd_T56 l0 x4_1).f2)) ∧ w'.cell? (ad244.add ((x4_1).toNat * 3)) = some (.int .i64 ((rd_T56 l0 x4_1).f0)) ∧ w'.cell? ⟨(ad244.add ((x4_1).toNat * 3)).block, (ad244.add ((x4_1).toNat * 3)).off + 1, none⟩ = some (.int .i64 ((rd_T56 l0 x4_1).f1)) ∧ w'.cell? ⟨(ad244.add ((x4_1).toNat * 3)).block, (ad244.add ((x4_1).toNat * 3)).off + 2, none⟩ = some (.string ((rd_T56 l0 x4_1).f2)) ∧ w'.cell? (ad244.add ((x4_1).toNat * 3)) = some (.int .i64 ((rd_T56 l0 x4_1).f0)) ∧ w'.cell? ⟨(ad244.add ((x4_1).toNat * 3)).block, (ad244.add ((x4_1).toNat * 3)).off + 1, none⟩ = some (.int .i64 ((rd_T56 l0 x4_1).f1)) ∧ w'.cell? ⟨(ad244.add ((x4_1).toNat * 3)).block, (ad244.add ((x4_1).toNat * 3)).off + 2, none⟩ = some (.string ((rd_T56 l0 x4_1).f2))) ∧ (Below w.heap.size w w')) ?_ ?_
              rotate_left
              ·intro hJ6_14_22
               refine join_ (σ := Value) 5 (bz28_ 28 20971519) (fun s_ => [(17, .string t245), (25, .string t247), (35, s_), (18, .string (x3_1 ++ t245)), (19, .string ((x3_1 ++ t245) ++ (⟨#[32]⟩ : ByteArray))), (26, .string (((x3_1 ++ t245) ++ (⟨#[32]⟩ : ByteArray)) ++ t247)), (27, .string ((((x3_1 ++ t245) ++ (⟨#[32]⟩ : ByteArray)) ++ t247) ++ (⟨#[32]⟩ : ByteArray)))]) (fun s_ w' => (w'.cell? (ad244.add ((x4_1).toNat * 3)) = some (.int .i64 ((rd_T56 l0 x4_1).f0)) ∧ w'.cell? ⟨(ad244.add ((x4_1).toNat * 3)).block, (ad244.add ((x4_1).toNat * 3)).off + 1, none⟩ = some (.int .i64 ((rd_T56 l0 x4_1).f1)) ∧ w'.cell? ⟨(ad244.add ((x4_1).toNat * 3)).block, (ad244.add ((x4_1).toNat * 3)).off + 2, none⟩ = some (.string ((rd_T56 l0 x4_1).f2)) ∧ w'.cell? (ad244.add ((x4_1).toNat * 3)) = some (.int .i64 ((rd_T56 l0 x4_1).f0)) ∧ w'.cell? ⟨(ad244.add ((x4_1).toNat * 3)).block, (ad244.add ((x4_1).toNat * 3)).off + 1, none⟩ = some (.int .i64 ((rd_T56 l0 x4_1).f1)) ∧ w'.cell? ⟨(ad244.add ((x4_1).toNat * 3)).block, (ad244.add ((x4_1).toNat * 3)).off + 2, none⟩ = some (.string ((rd_T56 l0 x4_1).f2)) ∧ w'.cell? (ad244.add ((x4_1).toNat * 3)) = some (.int .i64 ((rd_T56 l0 x4_1).f0)) ∧ w'.cell? ⟨(ad244.add ((x4_1).toNat * 3)).block, (ad244.add ((x4_1).toNat * 3)).off + 1, none⟩ = some (.int .i64 ((rd_T56 l0 x4_1).f1)) ∧ w'.cell? ⟨(ad244.add ((x4_1).toNat * 3)).block, (ad244.add ((x4_1).toNat * 3)).off + 2, none⟩ = some (.string ((rd_T56 l0 x4_1).f2))) ∧ (Kd.R (Kd.int .u8) 5 w' w.heap.size (fun _ => True) s_ y250) ∧ (Below w.heap.size w w')) ?_ ?_
               rotate_left
               ·intro hJ6_14_24
                refine join_ (σ := Value) 7 (bz28_ 28 54411263) (fun s_ => [(17, .string t245), (35, s_), (36, .string (strOfNums y250)), (18, .string (x3_1 ++ t245)), (19, .string ((x3_1 ++ t245) ++ (⟨#[32]⟩ : ByteArray)))]) (fun s_ w' => (w'.cell? (ad244.add ((x4_1).toNat * 3)) = some (.int .i64 ((rd_T56 l0 x4_1).f0)) ∧ w'.cell? ⟨(ad244.add ((x4_1).toNat * 3)).block, (ad244.add ((x4_1).toNat * 3)).off + 1, none⟩ = some (.int .i64 ((rd_T56 l0 x4_1).f1)) ∧ w'.cell? ⟨(ad244.add ((x4_1).toNat * 3)).block, (ad244.add ((x4_1).toNat * 3)).off + 2, none⟩ = some (.string ((rd_T56 l0 x4_1).f2)) ∧ w'.cell? (ad244.add ((x4_1).toNat * 3)) = some (.int .i64 ((rd_T56 l0 x4_1).f0)) ∧ w'.cell? ⟨(ad244.add ((x4_1).toNat * 3)).block, (ad244.add ((x4_1).toNat * 3)).off + 1, none⟩ = some (.int .i64 ((rd_T56 l0 x4_1).f1)) ∧ w'.cell? ⟨(ad244.add ((x4_1).toNat * 3)).block, (ad244.add ((x4_1).toNat * 3)).off + 2, none⟩ = some (.string ((rd_T56 l0 x4_1).f2)) ∧ w'.cell? (ad244.add ((x4_1).toNat * 3)) = some (.int .i64 ((rd_T56 l0 x4_1).f0)) ∧ w'.cell? ⟨(ad244.add ((x4_1).toNat * 3)).block, (ad244.add ((x4_1).toNat * 3)).off + 1, none⟩ = some (.int .i64 ((rd_T56 l0 x4_1).f1)) ∧ w'.cell? ⟨(ad244.add ((x4_1).toNat * 3)).block, (ad244.add ((x4_1).toNat * 3)).off + 2, none⟩ = some (.string ((rd_T56 l0 x4_1).f2))) ∧ (Kd.R (Kd.int .u8) 5 w' w.heap.size (fun _ => True) s_ y250) ∧ (Below w.heap.size w w')) ?_ ?_
                rotate_left
                ·intro hJ6_24_25
                 refine join_ (σ := Unit) 6 (bz28_ 28 4194303) (fun s_ => [(17, .string t245), (25, .string t247), (18, .string (x3_1 ++ t245)), (19, .string ((x3_1 ++ t245) ++ (⟨#[32]⟩ : ByteArray))), (26, .string (((x3_1 ++ t245) ++ (⟨#[32]⟩ : ByteArray)) ++ t247)), (27, .string ((((x3_1 ++ t245) ++ (⟨#[32]⟩ : ByteArray)) ++ t247) ++ (⟨#[32]⟩ : ByteArray)))]) (fun s_ w' => (w'.cell? (ad244.add ((x4_1).toNat * 3)) = some (.int .i64 ((rd_T56 l0 x4_1).f0)) ∧ w'.cell? ⟨(ad244.add ((x4_1).toNat * 3)).block, (ad244.add ((x4_1).toNat * 3)).off + 1, none⟩ = some (.int .i64 ((rd_T56 l0 x4_1).f1)) ∧ w'.cell? ⟨(ad244.add ((x4_1).toNat * 3)).block, (ad244.add ((x4_1).toNat * 3)).off + 2, none⟩ = some (.string ((rd_T56 l0 x4_1).f2)) ∧ w'.cell? (ad244.add ((x4_1).toNat * 3)) = some (.int .i64 ((rd_T56 l0 x4_1).f0)) ∧ w'.cell? ⟨(ad244.add ((x4_1).toNat * 3)).block, (ad244.add ((x4_1).toNat * 3)).off + 1, none⟩ = some (.int .i64 ((rd_T56 l0 x4_1).f1)) ∧ w'.cell? ⟨(ad244.add ((x4_1).toNat * 3)).block, (ad244.add ((x4_1).toNat * 3)).off + 2, none⟩ = some (.string ((rd_T56 l0 x4_1).f2)) ∧ w'.cell? (ad244.add ((x4_1).toNat * 3)) = some (.int .i64 ((rd_T56 l0 x4_1).f0)) ∧ w'.cell? ⟨(ad244.add ((x4_1).toNat * 3)).block, (ad244.add ((x4_1).toNat * 3)).off + 1, none⟩ = some (.int .i64 ((rd_T56 l0 x4_1).f1)) ∧ w'.cell? ⟨(ad244.add ((x4_1).toNat * 3)).block, (ad244.add ((x4_1).toNat * 3)).off + 2, none⟩ = some (.string ((rd_T56 l0 x4_1).f2))) ∧ (Below w.heap.size w w')) ?_ ?_
                 rotate_left
                 ·intro hJ6_14
                  refine join_ (σ := Value) 8 (bz28_ 28 20856831) (fun s_ => [(17, .string t245), (35, s_), (18, .string (x3_1 ++ t245)), (19, .string ((x3_1 ++ t245) ++ (⟨#[32]⟩ : ByteArray)))]) (fun s_ w' => (w'.cell? (ad244.add ((x4_1).toNat * 3)) = some (.int .i64 ((rd_T56 l0 x4_1).f0)) ∧ w'.cell? ⟨(ad244.add ((x4_1).toNat * 3)).block, (ad244.add ((x4_1).toNat * 3)).off + 1, none⟩ = some (.int .i64 ((rd_T56 l0 x4_1).f1)) ∧ w'.cell? ⟨(ad244.add ((x4_1).toNat * 3)).block, (ad244.add ((x4_1).toNat * 3)).off + 2, none⟩ = some (.string ((rd_T56 l0 x4_1).f2)) ∧ w'.cell? (ad244.add ((x4_1).toNat * 3)) = some (.int .i64 ((rd_T56 l0 x4_1).f0)) ∧ w'.cell? ⟨(ad244.add ((x4_1).toNat * 3)).block, (ad244.add ((x4_1).toNat * 3)).off + 1, none⟩ = some (.int .i64 ((rd_T56 l0 x4_1).f1)) ∧ w'.cell? ⟨(ad244.add ((x4_1).toNat * 3)).block, (ad244.add ((x4_1).toNat * 3)).off + 2, none⟩ = some (.string ((rd_T56 l0 x4_1).f2)) ∧ w'.cell? (ad244.add ((x4_1).toNat * 3)) = some (.int .i64 ((rd_T56 l0 x4_1).f0)) ∧ w'.cell? ⟨(ad244.add ((x4_1).toNat * 3)).block, (ad244.add ((x4_1).toNat * 3)).off + 1, none⟩ = some (.int .i64 ((rd_T56 l0 x4_1).f1)) ∧ w'.cell? ⟨(ad244.add ((x4_1).toNat * 3)).block, (ad244.add ((x4_1).toNat * 3)).off + 2, none⟩ = some (.string ((rd_T56 l0 x4_1).f2))) ∧ (Kd.R (Kd.int .u8) 5 w' w.heap.size (fun _ => True) s_ y250) ∧ (Below w.heap.size w w')) ?_ ?_
                  rotate_left
                  ·intro hJ6_24
                   refine join_ (σ := Value) 10 (bz28_ 28 54410815) (fun s_ => [(35, s_), (36, .string (strOfNums y250))]) (fun s_ w' => (w'.cell? (ad244.add ((x4_1).toNat * 3)) = some (.int .i64 ((rd_T56 l0 x4_1).f0)) ∧ w'.cell? ⟨(ad244.add ((x4_1).toNat * 3)).block, (ad244.add ((x4_1).toNat * 3)).off + 1, none⟩ = some (.int .i64 ((rd_T56 l0 x4_1).f1)) ∧ w'.cell? ⟨(ad244.add ((x4_1).toNat * 3)).block, (ad244.add ((x4_1).toNat * 3)).off + 2, none⟩ = some (.string ((rd_T56 l0 x4_1).f2)) ∧ w'.cell? (ad244.add ((x4_1).toNat * 3)) = some (.int .i64 ((rd_T56 l0 x4_1).f0)) ∧ w'.cell? ⟨(ad244.add ((x4_1).toNat * 3)).block, (ad244.add ((x4_1).toNat * 3)).off + 1, none⟩ = some (.int .i64 ((rd_T56 l0 x4_1).f1)) ∧ w'.cell? ⟨(ad244.add ((x4_1).toNat * 3)).block, (ad244.add ((x4_1).toNat * 3)).off + 2, none⟩ = some (.string ((rd_T56 l0 x4_1).f2)) ∧ w'.cell? (ad244.add ((x4_1).toNat * 3)) = some (.int .i64 ((rd_T56 l0 x4_1).f0)) ∧ w'.cell? ⟨(ad244.add ((x4_1).toNat * 3)).block, (ad244.add ((x4_1).toNat * 3)).off + 1, none⟩ = some (.int .i64 ((rd_T56 l0 x4_1).f1)) ∧ w'.cell? ⟨(ad244.add ((x4_1).toNat * 3)).block, (ad244.add ((x4_1).toNat * 3)).off + 2, none⟩ = some (.string ((rd_T56 l0 x4_1).f2))) ∧ (Kd.R (Kd.int .u8) 5 w' w.heap.size (fun _ => True) s_ y250) ∧ (Below w.heap.size w w')) ?_ ?_
                   rotate_left
                   ·intro hJ24_25
                    refine join_ (σ := Unit) 9 (bz28_ 28 4079615) (fun s_ => [(17, .string t245), (18, .string (x3_1 ++ t245)), (19, .string ((x3_1 ++ t245) ++ (⟨#[32]⟩ : ByteArray)))]) (fun s_ w' => (w'.cell? (ad244.add ((x4_1).toNat * 3)) = some (.int .i64 ((rd_T56 l0 x4_1).f0)) ∧ w'.cell? ⟨(ad244.add ((x4_1).toNat * 3)).block, (ad244.add ((x4_1).toNat * 3)).off + 1, none⟩ = some (.int .i64 ((rd_T56 l0 x4_1).f1)) ∧ w'.cell? ⟨(ad244.add ((x4_1).toNat * 3)).block, (ad244.add ((x4_1).toNat * 3)).off + 2, none⟩ = some (.string ((rd_T56 l0 x4_1).f2)) ∧ w'.cell? (ad244.add ((x4_1).toNat * 3)) = some (.int .i64 ((rd_T56 l0 x4_1).f0)) ∧ w'.cell? ⟨(ad244.add ((x4_1).toNat * 3)).block, (ad244.add ((x4_1).toNat * 3)).off + 1, none⟩ = some (.int .i64 ((rd_T56 l0 x4_1).f1)) ∧ w'.cell? ⟨(ad244.add ((x4_1).toNat * 3)).block, (ad244.add ((x4_1).toNat * 3)).off + 2, none⟩ = some (.string ((rd_T56 l0 x4_1).f2)) ∧ w'.cell? (ad244.add ((x4_1).toNat * 3)) = some (.int .i64 ((rd_T56 l0 x4_1).f0)) ∧ w'.cell? ⟨(ad244.add ((x4_1).toNat * 3)).block, (ad244.add ((x4_1).toNat * 3)).off + 1, none⟩ = some (.int .i64 ((rd_T56 l0 x4_1).f1)) ∧ w'.cell? ⟨(ad244.add ((x4_1).toNat * 3)).block, (ad244.add ((x4_1).toNat * 3)).off + 2, none⟩ = some (.string ((rd_T56 l0 x4_1).f2))) ∧ (Below w.heap.size w w')) ?_ ?_
                    rotate_left
                    ·intro hJ6
                     refine join_ (σ := Value) 11 (bz28_ 28 20856383) (fun s_ => [(35, s_)]) (fun s_ w' => (w'.cell? (ad244.add ((x4_1).toNat * 3)) = some (.int .i64 ((rd_T56 l0 x4_1).f0)) ∧ w'.cell? ⟨(ad244.add ((x4_1).toNat * 3)).block, (ad244.add ((x4_1).toNat * 3)).off + 1, none⟩ = some (.int .i64 ((rd_T56 l0 x4_1).f1)) ∧ w'.cell? ⟨(ad244.add ((x4_1).toNat * 3)).block, (ad244.add ((x4_1).toNat * 3)).off + 2, none⟩ = some (.string ((rd_T56 l0 x4_1).f2)) ∧ w'.cell? (ad244.add ((x4_1).toNat * 3)) = some (.int .i64 ((rd_T56 l0 x4_1).f0)) ∧ w'.cell? ⟨(ad244.add ((x4_1).toNat * 3)).block, (ad244.add ((x4_1).toNat * 3)).off + 1, none⟩ = some (.int .i64 ((rd_T56 l0 x4_1).f1)) ∧ w'.cell? ⟨(ad244.add ((x4_1).toNat * 3)).block, (ad244.add ((x4_1).toNat * 3)).off + 2, none⟩ = some (.string ((rd_T56 l0 x4_1).f2)) ∧ w'.cell? (ad244.add ((x4_1).toNat * 3)) = some (.int .i64 ((rd_T56 l0 x4_1).f0)) ∧ w'.cell? ⟨(ad244.add ((x4_1).toNat * 3)).block, (ad244.add ((x4_1).toNat * 3)).off + 1, none⟩ = some (.int .i64 ((rd_T56 l0 x4_1).f1)) ∧ w'.cell? ⟨(ad244.add ((x4_1).toNat * 3)).block, (ad244.add ((x4_1).toNat * 3)).off + 2, none⟩ = some (.string ((rd_T56 l0 x4_1).f2))) ∧ (Kd.R (Kd.int .u8) 5 w' w.heap.size (fun _ => True) s_ y250) ∧ (Below w.heap.size w w')) ?_ ?_
                     rotate_left
                     ·intro hJ24
                      refine two_ (i := 6) (j := 24) (Ni := some 17) (Nj := some 35) (bz28_ 28 4079231) (bz28_ 28 20856383) rfl rfl rfl rfl (two_of HT_.out (by kernel_rfl)) (by decide) (by decide) (fun K hK => ?_) (fun K hK => ?_)
                      ·skip
                       refine goes_ Tryd.func49 (by kernel_rfl) rfl #[.int .i64 ((rd_T56 l0 x4_1).f0)] (by rfl) rfl rfl (by (try simp only [List.map_toArray, List.map_cons, List.map_nil]); first | done | rfl | (simp only [List.length_drop, List.length_take]; rfl)) ?_
                       with_reducible refine (orielref25_Dec.calls k1 ((rd_T56 l0 x4_1).f0) t245 _ A4.out).mono ?_
                       rintro e w14 ⟨rfl, hb⟩
                       refine ⟨_, rfl, ?_⟩
                       have n0_ := Aside0.mk (below_step (by exact HB.out) hb)
                       clear HB
                       have HB := n0_
                       clear n0_
                       refine hK.out _ _ ⟨((HB.out.cell (World.block_lt_of_cell? w _ hw244_0)).trans hw244_0), ((HB.out.cell (World.block_lt_of_cell? w _ hw244_1)).trans hw244_1), ((HB.out.cell (World.block_lt_of_cell? w _ hw244_2)).trans hw244_2), ((HB.out.cell (World.block_lt_of_cell? w _ hw246_0)).trans hw246_0), ((HB.out.cell (World.block_lt_of_cell? w _ hw246_1)).trans hw246_1), ((HB.out.cell (World.block_lt_of_cell? w _ hw246_2)).trans hw246_2), ((HB.out.cell (World.block_lt_of_cell? w _ hw248_0)).trans hw248_0), ((HB.out.cell (World.block_lt_of_cell? w _ hw248_1)).trans hw248_1), ((HB.out.cell (World.block_lt_of_cell? w _ hw248_2)).trans hw248_2)⟩ (fun hHeld => ?_)
                       clear hK K
                       refine norm_ (a' := ?_) ?_ ?_
                       rotate_left
                       ·show Act.put _ (some 17) _ = _
                        simp only [Act.put, List.setIfInBounds_toArray, List.set_cons_zero, List.set_cons_succ, i64_w, i32_w]
                        rfl
                       refine pure_ (i := 7) (N := some 18) (v := ?_) (a' := ?_) (bz28_ 28 4079359) rfl rfl (any_of HT_.out (by kernel_rfl)) (fun _ _ _ h => h) (Or.inl ⟨by rfl, ?_⟩) ?_ ?_
                       rotate_left
                       ·intro w'
                        go_simp
                        with_reducible rfl
                       rotate_left
                       ·simp only [Act.put, List.setIfInBounds_toArray, List.set_cons_zero, List.set_cons_succ, i64_w, i32_w]
                        rfl
                       refine pure_ (i := 8) (N := some 19) (v := ?_) (a' := ?_) (bz28_ 28 4079615) rfl rfl (any_of HT_.out (by kernel_rfl)) (fun _ _ _ h => h) (Or.inl ⟨by rfl, ?_⟩) ?_ ?_
                       rotate_left
                       ·intro w'
                        go_simp
                        with_reducible rfl
                       rotate_left
                       ·simp only [Act.put, List.setIfInBounds_toArray, List.set_cons_zero, List.set_cons_succ, i64_w, i32_w]
                        rfl
                       exact norm_ (by first | (simp only [putAll, Act.put, List.setIfInBounds_toArray, List.set_cons_zero, List.set_cons_succ]; done) | (simp only [putAll, Act.put, List.setIfInBounds_toArray, List.set_cons_zero, List.set_cons_succ]; rfl)) (hJ6 () _ ⟨hHeld, (by exact HB.out)⟩)
                      ·skip
                       refine Kd.R_lit_step (Kd.int .u8) _ 5 ?hg (N := 35) ?hd (xs := ([10] : List Int)) (inner := [.int .u8 10]) (ok := fun _ => True) (okp := fun _ => True) ?hr ?hp (fun _ hk => hk) trivial (Below.refl _ _) (Nat.le_refl _) (by simp) ?_; (case hd => rfl); (case hg => rfl); (case hr => first | (go_simp; done) | (go_simp; rfl)); (case hp => exact (Reps.one (show Kd.M (Kd.int .u8) _ _ _ 10 [.int .u8 10] from rfl) (Reps.none _ _)))
                       intro v251 w14 ho15 hb hg_ hnew_
                       clear hg_ hnew_
                       (first | rw [← Ny250.out] at ho15 | (simp only [Int.reduceToNat] at ho15; rw [← Ny250.out] at ho15))
                       have n0_ := Aside0.mk (Kd.R_lower ho15 (below_size (by exact HB.out)))
                       have n1_ := Aside0.mk (below_step (by exact HB.out) hb)
                       clear HB
                       have HO252 := n0_
                       have HB := n1_
                       clear n0_ n1_
                       clear hb ho15
                       refine hK.out _ _ ⟨((HB.out.cell (World.block_lt_of_cell? w _ hw244_0)).trans hw244_0), ((HB.out.cell (World.block_lt_of_cell? w _ hw244_1)).trans hw244_1), ((HB.out.cell (World.block_lt_of_cell? w _ hw244_2)).trans hw244_2), ((HB.out.cell (World.block_lt_of_cell? w _ hw246_0)).trans hw246_0), ((HB.out.cell (World.block_lt_of_cell? w _ hw246_1)).trans hw246_1), ((HB.out.cell (World.block_lt_of_cell? w _ hw246_2)).trans hw246_2), ((HB.out.cell (World.block_lt_of_cell? w _ hw248_0)).trans hw248_0), ((HB.out.cell (World.block_lt_of_cell? w _ hw248_1)).trans hw248_1), ((HB.out.cell (World.block_lt_of_cell? w _ hw248_2)).trans hw248_2)⟩ (fun hHeld => ?_)
                       clear hK K
                       refine norm_ (a' := ?_) ?_ ?_
                       rotate_left
                       ·show Act.put _ (some 35) _ = _
                        simp only [Act.put, List.setIfInBounds_toArray, List.set_cons_zero, List.set_cons_succ, i64_w, i32_w]
                        rfl
                       exact norm_ (by first | (simp only [putAll, Act.put, List.setIfInBounds_toArray, List.set_cons_zero, List.set_cons_succ]; done) | (simp only [putAll, Act.put, List.setIfInBounds_toArray, List.set_cons_zero, List.set_cons_succ]; rfl)) (hJ24 (v251) _ ⟨hHeld, (by exact HO252.out), (by exact HB.out)⟩)
                     ·skip
                      rintro v251 w16 ⟨hS_, h0_, h1_⟩
                      have n0_ : Aside0 (Kd.R (Kd.int .u8) 5 w16 w.heap.size (fun _ => True) v251 y250) := ⟨h0_⟩
                      have n1_ : Aside0 (Below w.heap.size w w16) := ⟨h1_⟩
                      clear HB
                      clear h0_ h1_
                      have HO252 := n0_
                      have HB := n1_
                      clear n0_ n1_
                      have hHeld : w16.cell? (ad244.add ((x4_1).toNat * 3)) = some (.int .i64 ((rd_T56 l0 x4_1).f0)) ∧ w16.cell? ⟨(ad244.add ((x4_1).toNat * 3)).block, (ad244.add ((x4_1).toNat * 3)).off + 1, none⟩ = some (.int .i64 ((rd_T56 l0 x4_1).f1)) ∧ w16.cell? ⟨(ad244.add ((x4_1).toNat * 3)).block, (ad244.add ((x4_1).toNat * 3)).off + 2, none⟩ = some (.string ((rd_T56 l0 x4_1).f2)) ∧ w16.cell? (ad244.add ((x4_1).toNat * 3)) = some (.int .i64 ((rd_T56 l0 x4_1).f0)) ∧ w16.cell? ⟨(ad244.add ((x4_1).toNat * 3)).block, (ad244.add ((x4_1).toNat * 3)).off + 1, none⟩ = some (.int .i64 ((rd_T56 l0 x4_1).f1)) ∧ w16.cell? ⟨(ad244.add ((x4_1).toNat * 3)).block, (ad244.add ((x4_1).toNat * 3)).off + 2, none⟩ = some (.string ((rd_T56 l0 x4_1).f2)) ∧ w16.cell? (ad244.add ((x4_1).toNat * 3)) = some (.int .i64 ((rd_T56 l0 x4_1).f0)) ∧ w16.cell? ⟨(ad244.add ((x4_1).toNat * 3)).block, (ad244.add ((x4_1).toNat * 3)).off + 1, none⟩ = some (.int .i64 ((rd_T56 l0 x4_1).f1)) ∧ w16.cell? ⟨(ad244.add ((x4_1).toNat * 3)).block, (ad244.add ((x4_1).toNat * 3)).off + 2, none⟩ = some (.string ((rd_T56 l0 x4_1).f2)) := hS_
                      refine norm_ (a' := ?_) ?_ ?_
                      rotate_left
                      ·simp only [putAll, Act.put, List.setIfInBounds_toArray, List.set_cons_zero, List.set_cons_succ]
                       rfl
                      refine two_ (i := 6) (j := 25) (Ni := some 17) (Nj := some 36) (bz28_ 28 20856447) (bz28_ 28 54410815) rfl rfl rfl rfl (two_of HT_.out (by kernel_rfl)) (by decide) (by decide) (fun K hK => ?_) (fun K hK => ?_)
                      ·skip
                       refine goes_ Tryd.func49 (by kernel_rfl) rfl #[.int .i64 ((rd_T56 l0 x4_1).f0)] (by rfl) rfl rfl (by (try simp only [List.map_toArray, List.map_cons, List.map_nil]); first | done | rfl | (simp only [List.length_drop, List.length_take]; rfl)) ?_
                       with_reducible refine (orielref25_Dec.calls k1 ((rd_T56 l0 x4_1).f0) t245 _ A4.out).mono ?_
                       rintro e w17 ⟨rfl, hb⟩
                       refine ⟨_, rfl, ?_⟩
                       have n0_ := Aside0.mk (Kd.R_below (by exact HO252.out) hb)
                       have n1_ := Aside0.mk (below_step (by exact HB.out) hb)
                       clear HO252
                       clear HB
                       have HO252 := n0_
                       have HB := n1_
                       clear n0_ n1_
                       refine hK.out _ _ ⟨((HB.out.cell (World.block_lt_of_cell? w _ hw244_0)).trans hw244_0), ((HB.out.cell (World.block_lt_of_cell? w _ hw244_1)).trans hw244_1), ((HB.out.cell (World.block_lt_of_cell? w _ hw244_2)).trans hw244_2), ((HB.out.cell (World.block_lt_of_cell? w _ hw246_0)).trans hw246_0), ((HB.out.cell (World.block_lt_of_cell? w _ hw246_1)).trans hw246_1), ((HB.out.cell (World.block_lt_of_cell? w _ hw246_2)).trans hw246_2), ((HB.out.cell (World.block_lt_of_cell? w _ hw248_0)).trans hw248_0), ((HB.out.cell (World.block_lt_of_cell? w _ hw248_1)).trans hw248_1), ((HB.out.cell (World.block_lt_of_cell? w _ hw248_2)).trans hw248_2)⟩ (fun hHeld => ?_)
                       clear hK K
                       refine norm_ (a' := ?_) ?_ ?_
                       rotate_left
                       ·show Act.put _ (some 17) _ = _
                        simp only [Act.put, List.setIfInBounds_toArray, List.set_cons_zero, List.set_cons_succ, i64_w, i32_w]
                        rfl
                       refine pure_ (i := 7) (N := some 18) (v := ?_) (a' := ?_) (bz28_ 28 20856575) rfl rfl (any_of HT_.out (by kernel_rfl)) (fun _ _ _ h => h) (Or.inl ⟨by rfl, ?_⟩) ?_ ?_
                       rotate_left
                       ·intro w'
                        go_simp
                        with_reducible rfl
                       rotate_left
                       ·simp only [Act.put, List.setIfInBounds_toArray, List.set_cons_zero, List.set_cons_succ, i64_w, i32_w]
                        rfl
                       refine pure_ (i := 8) (N := some 19) (v := ?_) (a' := ?_) (bz28_ 28 20856831) rfl rfl (any_of HT_.out (by kernel_rfl)) (fun _ _ _ h => h) (Or.inl ⟨by rfl, ?_⟩) ?_ ?_
                       rotate_left
                       ·intro w'
                        go_simp
                        with_reducible rfl
                       rotate_left
                       ·simp only [Act.put, List.setIfInBounds_toArray, List.set_cons_zero, List.set_cons_succ, i64_w, i32_w]
                        rfl
                       exact norm_ (by first | (simp only [putAll, Act.put, List.setIfInBounds_toArray, List.set_cons_zero, List.set_cons_succ]; done) | (simp only [putAll, Act.put, List.setIfInBounds_toArray, List.set_cons_zero, List.set_cons_succ]; rfl)) (hJ6_24 (v251) _ ⟨hHeld, (by exact HO252.out), (by exact HB.out)⟩)
                      ·skip
                       have hcv17 := own_string (P := Tryd.prog) Tryd.underlying77 Tryd.underlying5 Tryd.underlying9 (Kd.own_of_R HO252.out); have hcv17m := fun m_ => own_string (P := Tryd.prog) Tryd.underlying77 Tryd.underlying5 Tryd.underlying9 (Kd.own_of_R (Kd.R_drewN HO252.out m_))
                       refine value_ (w1 := ?_) (v := ?_) (by rfl) rfl ?_ ?_
                       rotate_left 2
                       ·go_simp
                        constructor
                        ·rfl
                        ·rfl
                       clear hcv17
                       refine hK.out _ _ ⟨((HB.out.cell (World.block_lt_of_cell? w _ hw244_0)).trans hw244_0), ((HB.out.cell (World.block_lt_of_cell? w _ hw244_1)).trans hw244_1), ((HB.out.cell (World.block_lt_of_cell? w _ hw244_2)).trans hw244_2), ((HB.out.cell (World.block_lt_of_cell? w _ hw246_0)).trans hw246_0), ((HB.out.cell (World.block_lt_of_cell? w _ hw246_1)).trans hw246_1), ((HB.out.cell (World.block_lt_of_cell? w _ hw246_2)).trans hw246_2), ((HB.out.cell (World.block_lt_of_cell? w _ hw248_0)).trans hw248_0), ((HB.out.cell (World.block_lt_of_cell? w _ hw248_1)).trans hw248_1), ((HB.out.cell (World.block_lt_of_cell? w _ hw248_2)).trans hw248_2)⟩ (fun hHeld => ?_)
                       clear hK K
                       refine norm_ (a' := ?_) ?_ ?_
                       rotate_left
                       ·show Act.put _ (some 36) _ = _
                        simp only [Act.put, List.setIfInBounds_toArray, List.set_cons_zero, List.set_cons_succ, i64_w, i32_w]
                        rfl
                       exact norm_ (by first | (simp only [putAll, Act.put, List.setIfInBounds_toArray, List.set_cons_zero, List.set_cons_succ]; done) | (simp only [putAll, Act.put, List.setIfInBounds_toArray, List.set_cons_zero, List.set_cons_succ]; rfl)) (hJ24_25 (v251) _ ⟨hHeld, (by exact HO252.out), (by exact HB.out)⟩)
                    ·skip
                     rintro _ w15 ⟨hS_, h0_⟩
                     have n0_ : Aside0 (Below w.heap.size w w15) := ⟨h0_⟩
                     clear HB
                     clear h0_
                     have HB := n0_
                     clear n0_
                     have hHeld : w15.cell? (ad244.add ((x4_1).toNat * 3)) = some (.int .i64 ((rd_T56 l0 x4_1).f0)) ∧ w15.cell? ⟨(ad244.add ((x4_1).toNat * 3)).block, (ad244.add ((x4_1).toNat * 3)).off + 1, none⟩ = some (.int .i64 ((rd_T56 l0 x4_1).f1)) ∧ w15.cell? ⟨(ad244.add ((x4_1).toNat * 3)).block, (ad244.add ((x4_1).toNat * 3)).off + 2, none⟩ = some (.string ((rd_T56 l0 x4_1).f2)) ∧ w15.cell? (ad244.add ((x4_1).toNat * 3)) = some (.int .i64 ((rd_T56 l0 x4_1).f0)) ∧ w15.cell? ⟨(ad244.add ((x4_1).toNat * 3)).block, (ad244.add ((x4_1).toNat * 3)).off + 1, none⟩ = some (.int .i64 ((rd_T56 l0 x4_1).f1)) ∧ w15.cell? ⟨(ad244.add ((x4_1).toNat * 3)).block, (ad244.add ((x4_1).toNat * 3)).off + 2, none⟩ = some (.string ((rd_T56 l0 x4_1).f2)) ∧ w15.cell? (ad244.add ((x4_1).toNat * 3)) = some (.int .i64 ((rd_T56 l0 x4_1).f0)) ∧ w15.cell? ⟨(ad244.add ((x4_1).toNat * 3)).block, (ad244.add ((x4_1).toNat * 3)).off + 1, none⟩ = some (.int .i64 ((rd_T56 l0 x4_1).f1)) ∧ w15.cell? ⟨(ad244.add ((x4_1).toNat * 3)).block, (ad244.add ((x4_1).toNat * 3)).off + 2, none⟩ = some (.string ((rd_T56 l0 x4_1).f2)) := hS_
                     refine norm_ (a' := ?_) ?_ ?_
                     rotate_left
                     ·simp only [putAll, Act.put, List.setIfInBounds_toArray, List.set_cons_zero, List.set_cons_succ]
                      rfl
                     refine two_ (i := 14) (j := 24) (Ni := some 25) (Nj := some 35) (bz28_ 28 4095999) (bz28_ 28 20856831) rfl rfl rfl rfl (two_of HT_.out (by kernel_rfl)) (by decide) (by decide) (fun K hK => ?_) (fun K hK => ?_)
                     ·skip
                      refine goes_ Tryd.func49 (by kernel_rfl) rfl #[.int .i64 ((rd_T56 l0 x4_1).f1)] (by rfl) rfl rfl (by (try simp only [List.map_toArray, List.map_cons, List.map_nil]); first | done | rfl | (simp only [List.length_drop, List.length_take]; rfl)) ?_
                      with_reducible refine (orielref25_Dec.calls k1 ((rd_T56 l0 x4_1).f1) t247 _ A7.out).mono ?_
                      rintro e w16 ⟨rfl, hb⟩
                      refine ⟨_, rfl, ?_⟩
                      have n0_ := Aside0.mk (below_step (by exact HB.out) hb)
                      clear HB
                      have HB := n0_
                      clear n0_
                      refine hK.out _ _ ⟨((HB.out.cell (World.block_lt_of_cell? w _ hw244_0)).trans hw244_0), ((HB.out.cell (World.block_lt_of_cell? w _ hw244_1)).trans hw244_1), ((HB.out.cell (World.block_lt_of_cell? w _ hw244_2)).trans hw244_2), ((HB.out.cell (World.block_lt_of_cell? w _ hw246_0)).trans hw246_0), ((HB.out.cell (World.block_lt_of_cell? w _ hw246_1)).trans hw246_1), ((HB.out.cell (World.block_lt_of_cell? w _ hw246_2)).trans hw246_2), ((HB.out.cell (World.block_lt_of_cell? w _ hw248_0)).trans hw248_0), ((HB.out.cell (World.block_lt_of_cell? w _ hw248_1)).trans hw248_1), ((HB.out.cell (World.block_lt_of_cell? w _ hw248_2)).trans hw248_2)⟩ (fun hHeld => ?_)
                      clear hK K
                      refine norm_ (a' := ?_) ?_ ?_
                      rotate_left
                      ·show Act.put _ (some 25) _ = _
                       simp only [Act.put, List.setIfInBounds_toArray, List.set_cons_zero, List.set_cons_succ, i64_w, i32_w]
                       rfl
                      refine pure_ (i := 15) (N := some 26) (v := ?_) (a' := ?_) (bz28_ 28 4128767) rfl rfl (any_of HT_.out (by kernel_rfl)) (fun _ _ _ h => h) (Or.inl ⟨by rfl, ?_⟩) ?_ ?_
                      rotate_left
                      ·intro w'
                       go_simp
                       with_reducible rfl
                      rotate_left
                      ·simp only [Act.put, List.setIfInBounds_toArray, List.set_cons_zero, List.set_cons_succ, i64_w, i32_w]
                       rfl
                      refine pure_ (i := 16) (N := some 27) (v := ?_) (a' := ?_) (bz28_ 28 4194303) rfl rfl (any_of HT_.out (by kernel_rfl)) (fun _ _ _ h => h) (Or.inl ⟨by rfl, ?_⟩) ?_ ?_
                      rotate_left
                      ·intro w'
                       go_simp
                       with_reducible rfl
                      rotate_left
                      ·simp only [Act.put, List.setIfInBounds_toArray, List.set_cons_zero, List.set_cons_succ, i64_w, i32_w]
                       rfl
                      exact norm_ (by first | (simp only [putAll, Act.put, List.setIfInBounds_toArray, List.set_cons_zero, List.set_cons_succ]; done) | (simp only [putAll, Act.put, List.setIfInBounds_toArray, List.set_cons_zero, List.set_cons_succ]; rfl)) (hJ6_14 () _ ⟨hHeld, (by exact HB.out)⟩)
                     ·skip
                      refine Kd.R_lit_step (Kd.int .u8) _ 5 ?hg (N := 35) ?hd (xs := ([10] : List Int)) (inner := [.int .u8 10]) (ok := fun _ => True) (okp := fun _ => True) ?hr ?hp (fun _ hk => hk) trivial (Below.refl _ _) (Nat.le_refl _) (by simp) ?_; (case hd => rfl); (case hg => rfl); (case hr => first | (go_simp; done) | (go_simp; rfl)); (case hp => exact (Reps.one (show Kd.M (Kd.int .u8) _ _ _ 10 [.int .u8 10] from rfl) (Reps.none _ _)))
                      intro v251 w16 ho17 hb hg_ hnew_
                      clear hg_ hnew_
                      (first | rw [← Ny250.out] at ho17 | (simp only [Int.reduceToNat] at ho17; rw [← Ny250.out] at ho17))
                      have n0_ := Aside0.mk (Kd.R_lower ho17 (below_size (by exact HB.out)))
                      have n1_ := Aside0.mk (below_step (by exact HB.out) hb)
                      clear HB
                      have HO252 := n0_
                      have HB := n1_
                      clear n0_ n1_
                      clear hb ho17
                      refine hK.out _ _ ⟨((HB.out.cell (World.block_lt_of_cell? w _ hw244_0)).trans hw244_0), ((HB.out.cell (World.block_lt_of_cell? w _ hw244_1)).trans hw244_1), ((HB.out.cell (World.block_lt_of_cell? w _ hw244_2)).trans hw244_2), ((HB.out.cell (World.block_lt_of_cell? w _ hw246_0)).trans hw246_0), ((HB.out.cell (World.block_lt_of_cell? w _ hw246_1)).trans hw246_1), ((HB.out.cell (World.block_lt_of_cell? w _ hw246_2)).trans hw246_2), ((HB.out.cell (World.block_lt_of_cell? w _ hw248_0)).trans hw248_0), ((HB.out.cell (World.block_lt_of_cell? w _ hw248_1)).trans hw248_1), ((HB.out.cell (World.block_lt_of_cell? w _ hw248_2)).trans hw248_2)⟩ (fun hHeld => ?_)
                      clear hK K
                      refine norm_ (a' := ?_) ?_ ?_
                      rotate_left
                      ·show Act.put _ (some 35) _ = _
                       simp only [Act.put, List.setIfInBounds_toArray, List.set_cons_zero, List.set_cons_succ, i64_w, i32_w]
                       rfl
                      exact norm_ (by first | (simp only [putAll, Act.put, List.setIfInBounds_toArray, List.set_cons_zero, List.set_cons_succ]; done) | (simp only [putAll, Act.put, List.setIfInBounds_toArray, List.set_cons_zero, List.set_cons_succ]; rfl)) (hJ6_24 (v251) _ ⟨hHeld, (by exact HO252.out), (by exact HB.out)⟩)
                   ·skip
                    rintro v251 w17 ⟨hS_, h0_, h1_⟩
                    have n0_ : Aside0 (Kd.R (Kd.int .u8) 5 w17 w.heap.size (fun _ => True) v251 y250) := ⟨h0_⟩
                    have n1_ : Aside0 (Below w.heap.size w w17) := ⟨h1_⟩
                    clear HB
                    clear h0_ h1_
                    have HO252 := n0_
                    have HB := n1_
                    clear n0_ n1_
                    have hHeld : w17.cell? (ad244.add ((x4_1).toNat * 3)) = some (.int .i64 ((rd_T56 l0 x4_1).f0)) ∧ w17.cell? ⟨(ad244.add ((x4_1).toNat * 3)).block, (ad244.add ((x4_1).toNat * 3)).off + 1, none⟩ = some (.int .i64 ((rd_T56 l0 x4_1).f1)) ∧ w17.cell? ⟨(ad244.add ((x4_1).toNat * 3)).block, (ad244.add ((x4_1).toNat * 3)).off + 2, none⟩ = some (.string ((rd_T56 l0 x4_1).f2)) ∧ w17.cell? (ad244.add ((x4_1).toNat * 3)) = some (.int .i64 ((rd_T56 l0 x4_1).f0)) ∧ w17.cell? ⟨(ad244.add ((x4_1).toNat * 3)).block, (ad244.add ((x4_1).toNat * 3)).off + 1, none⟩ = some (.int .i64 ((rd_T56 l0 x4_1).f1)) ∧ w17.cell? ⟨(ad244.add ((x4_1).toNat * 3)).block, (ad244.add ((x4_1).toNat * 3)).off + 2, none⟩ = some (.string ((rd_T56 l0 x4_1).f2)) ∧ w17.cell? (ad244.add ((x4_1).toNat * 3)) = some (.int .i64 ((rd_T56 l0 x4_1).f0)) ∧ w17.cell? ⟨(ad244.add ((x4_1).toNat * 3)).block, (ad244.add ((x4_1).toNat * 3)).off + 1, none⟩ = some (.int .i64 ((rd_T56 l0 x4_1).f1)) ∧ w17.cell? ⟨(ad244.add ((x4_1).toNat * 3)).block, (ad244.add ((x4_1).toNat * 3)).off + 2, none⟩ = some (.string ((rd_T56 l0 x4_1).f2)) := hS_
                    refine norm_ (a' := ?_) ?_ ?_
                    rotate_left
                    ·simp only [putAll, Act.put, List.setIfInBounds_toArray, List.set_cons_zero, List.set_cons_succ]
                     rfl
                    refine one_ (i := 6) (N := some 17) (bz28_ 28 54410879) rfl rfl (one_of HT_.out (by kernel_rfl)) (by decide) (fun K hK => ?_)
                    refine goes_ Tryd.func49 (by kernel_rfl) rfl #[.int .i64 ((rd_T56 l0 x4_1).f0)] (by rfl) rfl rfl (by (try simp only [List.map_toArray, List.map_cons, List.map_nil]); first | done | rfl | (simp only [List.length_drop, List.length_take]; rfl)) ?_
                    with_reducible refine (orielref25_Dec.calls k1 ((rd_T56 l0 x4_1).f0) t245 _ A4.out).mono ?_
                    rintro e w18 ⟨rfl, hb⟩
                    refine ⟨_, rfl, ?_⟩
                    have n0_ := Aside0.mk (Kd.R_below (by exact HO252.out) hb)
                    have n1_ := Aside0.mk (below_step (by exact HB.out) hb)
                    clear HO252
                    clear HB
                    have HO252 := n0_
                    have HB := n1_
                    clear n0_ n1_
                    refine hK.out _ _ ⟨((HB.out.cell (World.block_lt_of_cell? w _ hw244_0)).trans hw244_0), ((HB.out.cell (World.block_lt_of_cell? w _ hw244_1)).trans hw244_1), ((HB.out.cell (World.block_lt_of_cell? w _ hw244_2)).trans hw244_2), ((HB.out.cell (World.block_lt_of_cell? w _ hw246_0)).trans hw246_0), ((HB.out.cell (World.block_lt_of_cell? w _ hw246_1)).trans hw246_1), ((HB.out.cell (World.block_lt_of_cell? w _ hw246_2)).trans hw246_2), ((HB.out.cell (World.block_lt_of_cell? w _ hw248_0)).trans hw248_0), ((HB.out.cell (World.block_lt_of_cell? w _ hw248_1)).trans hw248_1), ((HB.out.cell (World.block_lt_of_cell? w _ hw248_2)).trans hw248_2)⟩ (fun hHeld => ?_)
                    clear hK K
                    refine norm_ (a' := ?_) ?_ ?_
                    rotate_left
                    ·show Act.put _ (some 17) _ = _
                     simp only [Act.put, List.setIfInBounds_toArray, List.set_cons_zero, List.set_cons_succ, i64_w, i32_w]
                     rfl
                    refine pure_ (i := 7) (N := some 18) (v := ?_) (a' := ?_) (bz28_ 28 54411007) rfl rfl (any_of HT_.out (by kernel_rfl)) (fun _ _ _ h => h) (Or.inl ⟨by rfl, ?_⟩) ?_ ?_
                    rotate_left
                    ·intro w'
                     go_simp
                     with_reducible rfl
                    rotate_left
                    ·simp only [Act.put, List.setIfInBounds_toArray, List.set_cons_zero, List.set_cons_succ, i64_w, i32_w]
                     rfl
                    refine pure_ (i := 8) (N := some 19) (v := ?_) (a' := ?_) (bz28_ 28 54411263) rfl rfl (any_of HT_.out (by kernel_rfl)) (fun _ _ _ h => h) (Or.inl ⟨by rfl, ?_⟩) ?_ ?_
                    rotate_left
                    ·intro w'
                     go_simp
                     with_reducible rfl
                    rotate_left
                    ·simp only [Act.put, List.setIfInBounds_toArray, List.set_cons_zero, List.set_cons_succ, i64_w, i32_w]
                     rfl
                    exact norm_ (by first | (simp only [putAll, Act.put, List.setIfInBounds_toArray, List.set_cons_zero, List.set_cons_succ]; done) | (simp only [putAll, Act.put, List.setIfInBounds_toArray, List.set_cons_zero, List.set_cons_succ]; rfl)) (hJ6_24_25 (v251) _ ⟨hHeld, (by exact HO252.out), (by exact HB.out)⟩)
                  ·skip
                   rintro v251 w17 ⟨hS_, h0_, h1_⟩
                   have n0_ : Aside0 (Kd.R (Kd.int .u8) 5 w17 w.heap.size (fun _ => True) v251 y250) := ⟨h0_⟩
                   have n1_ : Aside0 (Below w.heap.size w w17) := ⟨h1_⟩
                   clear HB
                   clear h0_ h1_
                   have HO252 := n0_
                   have HB := n1_
                   clear n0_ n1_
                   have hHeld : w17.cell? (ad244.add ((x4_1).toNat * 3)) = some (.int .i64 ((rd_T56 l0 x4_1).f0)) ∧ w17.cell? ⟨(ad244.add ((x4_1).toNat * 3)).block, (ad244.add ((x4_1).toNat * 3)).off + 1, none⟩ = some (.int .i64 ((rd_T56 l0 x4_1).f1)) ∧ w17.cell? ⟨(ad244.add ((x4_1).toNat * 3)).block, (ad244.add ((x4_1).toNat * 3)).off + 2, none⟩ = some (.string ((rd_T56 l0 x4_1).f2)) ∧ w17.cell? (ad244.add ((x4_1).toNat * 3)) = some (.int .i64 ((rd_T56 l0 x4_1).f0)) ∧ w17.cell? ⟨(ad244.add ((x4_1).toNat * 3)).block, (ad244.add ((x4_1).toNat * 3)).off + 1, none⟩ = some (.int .i64 ((rd_T56 l0 x4_1).f1)) ∧ w17.cell? ⟨(ad244.add ((x4_1).toNat * 3)).block, (ad244.add ((x4_1).toNat * 3)).off + 2, none⟩ = some (.string ((rd_T56 l0 x4_1).f2)) ∧ w17.cell? (ad244.add ((x4_1).toNat * 3)) = some (.int .i64 ((rd_T56 l0 x4_1).f0)) ∧ w17.cell? ⟨(ad244.add ((x4_1).toNat * 3)).block, (ad244.add ((x4_1).toNat * 3)).off + 1, none⟩ = some (.int .i64 ((rd_T56 l0 x4_1).f1)) ∧ w17.cell? ⟨(ad244.add ((x4_1).toNat * 3)).block, (ad244.add ((x4_1).toNat * 3)).off + 2, none⟩ = some (.string ((rd_T56 l0 x4_1).f2)) := hS_
                   refine norm_ (a' := ?_) ?_ ?_
                   rotate_left
                   ·simp only [putAll, Act.put, List.setIfInBounds_toArray, List.set_cons_zero, List.set_cons_succ]
                    rfl
                   refine two_ (i := 14) (j := 25) (Ni := some 25) (Nj := some 36) (bz28_ 28 20873215) (bz28_ 28 54411263) rfl rfl rfl rfl (two_of HT_.out (by kernel_rfl)) (by decide) (by decide) (fun K hK => ?_) (fun K hK => ?_)
                   ·skip
                    refine goes_ Tryd.func49 (by kernel_rfl) rfl #[.int .i64 ((rd_T56 l0 x4_1).f1)] (by rfl) rfl rfl (by (try simp only [List.map_toArray, List.map_cons, List.map_nil]); first | done | rfl | (simp only [List.length_drop, List.length_take]; rfl)) ?_
                    with_reducible refine (orielref25_Dec.calls k1 ((rd_T56 l0 x4_1).f1) t247 _ A7.out).mono ?_
                    rintro e w18 ⟨rfl, hb⟩
                    refine ⟨_, rfl, ?_⟩
                    have n0_ := Aside0.mk (Kd.R_below (by exact HO252.out) hb)
                    have n1_ := Aside0.mk (below_step (by exact HB.out) hb)
                    clear HO252
                    clear HB
                    have HO252 := n0_
                    have HB := n1_
                    clear n0_ n1_
                    refine hK.out _ _ ⟨((HB.out.cell (World.block_lt_of_cell? w _ hw244_0)).trans hw244_0), ((HB.out.cell (World.block_lt_of_cell? w _ hw244_1)).trans hw244_1), ((HB.out.cell (World.block_lt_of_cell? w _ hw244_2)).trans hw244_2), ((HB.out.cell (World.block_lt_of_cell? w _ hw246_0)).trans hw246_0), ((HB.out.cell (World.block_lt_of_cell? w _ hw246_1)).trans hw246_1), ((HB.out.cell (World.block_lt_of_cell? w _ hw246_2)).trans hw246_2), ((HB.out.cell (World.block_lt_of_cell? w _ hw248_0)).trans hw248_0), ((HB.out.cell (World.block_lt_of_cell? w _ hw248_1)).trans hw248_1), ((HB.out.cell (World.block_lt_of_cell? w _ hw248_2)).trans hw248_2)⟩ (fun hHeld => ?_)
                    clear hK K
                    refine norm_ (a' := ?_) ?_ ?_
                    rotate_left
                    ·show Act.put _ (some 25) _ = _
                     simp only [Act.put, List.setIfInBounds_toArray, List.set_cons_zero, List.set_cons_succ, i64_w, i32_w]
                     rfl
                    refine pure_ (i := 15) (N := some 26) (v := ?_) (a' := ?_) (bz28_ 28 20905983) rfl rfl (any_of HT_.out (by kernel_rfl)) (fun _ _ _ h => h) (Or.inl ⟨by rfl, ?_⟩) ?_ ?_
                    rotate_left
                    ·intro w'
                     go_simp
                     with_reducible rfl
                    rotate_left
                    ·simp only [Act.put, List.setIfInBounds_toArray, List.set_cons_zero, List.set_cons_succ, i64_w, i32_w]
                     rfl
                    refine pure_ (i := 16) (N := some 27) (v := ?_) (a' := ?_) (bz28_ 28 20971519) rfl rfl (any_of HT_.out (by kernel_rfl)) (fun _ _ _ h => h) (Or.inl ⟨by rfl, ?_⟩) ?_ ?_
                    rotate_left
                    ·intro w'
                     go_simp
                     with_reducible rfl
                    rotate_left
                    ·simp only [Act.put, List.setIfInBounds_toArray, List.set_cons_zero, List.set_cons_succ, i64_w, i32_w]
                     rfl
                    exact norm_ (by first | (simp only [putAll, Act.put, List.setIfInBounds_toArray, List.set_cons_zero, List.set_cons_succ]; done) | (simp only [putAll, Act.put, List.setIfInBounds_toArray, List.set_cons_zero, List.set_cons_succ]; rfl)) (hJ6_14_24 (v251) _ ⟨hHeld, (by exact HO252.out), (by exact HB.out)⟩)
                   ·skip
                    have hcv18 := own_string (P := Tryd.prog) Tryd.underlying77 Tryd.underlying5 Tryd.underlying9 (Kd.own_of_R HO252.out); have hcv18m := fun m_ => own_string (P := Tryd.prog) Tryd.underlying77 Tryd.underlying5 Tryd.underlying9 (Kd.own_of_R (Kd.R_drewN HO252.out m_))
                    refine value_ (w1 := ?_) (v := ?_) (by rfl) rfl ?_ ?_
                    rotate_left 2
                    ·go_simp
                     constructor
                     ·rfl
                     ·rfl
                    clear hcv18
                    refine hK.out _ _ ⟨((HB.out.cell (World.block_lt_of_cell? w _ hw244_0)).trans hw244_0), ((HB.out.cell (World.block_lt_of_cell? w _ hw244_1)).trans hw244_1), ((HB.out.cell (World.block_lt_of_cell? w _ hw244_2)).trans hw244_2), ((HB.out.cell (World.block_lt_of_cell? w _ hw246_0)).trans hw246_0), ((HB.out.cell (World.block_lt_of_cell? w _ hw246_1)).trans hw246_1), ((HB.out.cell (World.block_lt_of_cell? w _ hw246_2)).trans hw246_2), ((HB.out.cell (World.block_lt_of_cell? w _ hw248_0)).trans hw248_0), ((HB.out.cell (World.block_lt_of_cell? w _ hw248_1)).trans hw248_1), ((HB.out.cell (World.block_lt_of_cell? w _ hw248_2)).trans hw248_2)⟩ (fun hHeld => ?_)
                    clear hK K
                    refine norm_ (a' := ?_) ?_ ?_
                    rotate_left
                    ·show Act.put _ (some 36) _ = _
                     simp only [Act.put, List.setIfInBounds_toArray, List.set_cons_zero, List.set_cons_succ, i64_w, i32_w]
                     rfl
                    exact norm_ (by first | (simp only [putAll, Act.put, List.setIfInBounds_toArray, List.set_cons_zero, List.set_cons_succ]; done) | (simp only [putAll, Act.put, List.setIfInBounds_toArray, List.set_cons_zero, List.set_cons_succ]; rfl)) (hJ6_24_25 (v251) _ ⟨hHeld, (by exact HO252.out), (by exact HB.out)⟩)
                 ·skip
                  rintro _ w16 ⟨hS_, h0_⟩
                  have n0_ : Aside0 (Below w.heap.size w w16) := ⟨h0_⟩
                  clear HB
                  clear h0_
                  have HB := n0_
                  clear n0_
                  have hHeld : w16.cell? (ad244.add ((x4_1).toNat * 3)) = some (.int .i64 ((rd_T56 l0 x4_1).f0)) ∧ w16.cell? ⟨(ad244.add ((x4_1).toNat * 3)).block, (ad244.add ((x4_1).toNat * 3)).off + 1, none⟩ = some (.int .i64 ((rd_T56 l0 x4_1).f1)) ∧ w16.cell? ⟨(ad244.add ((x4_1).toNat * 3)).block, (ad244.add ((x4_1).toNat * 3)).off + 2, none⟩ = some (.string ((rd_T56 l0 x4_1).f2)) ∧ w16.cell? (ad244.add ((x4_1).toNat * 3)) = some (.int .i64 ((rd_T56 l0 x4_1).f0)) ∧ w16.cell? ⟨(ad244.add ((x4_1).toNat * 3)).block, (ad244.add ((x4_1).toNat * 3)).off + 1, none⟩ = some (.int .i64 ((rd_T56 l0 x4_1).f1)) ∧ w16.cell? ⟨(ad244.add ((x4_1).toNat * 3)).block, (ad244.add ((x4_1).toNat * 3)).off + 2, none⟩ = some (.string ((rd_T56 l0 x4_1).f2)) ∧ w16.cell? (ad244.add ((x4_1).toNat * 3)) = some (.int .i64 ((rd_T56 l0 x4_1).f0)) ∧ w16.cell? ⟨(ad244.add ((x4_1).toNat * 3)).block, (ad244.add ((x4_1).toNat * 3)).off + 1, none⟩ = some (.int .i64 ((rd_T56 l0 x4_1).f1)) ∧ w16.cell? ⟨(ad244.add ((x4_1).toNat * 3)).block, (ad244.add ((x4_1).toNat * 3)).off + 2, none⟩ = some (.string ((rd_T56 l0 x4_1).f2)) := hS_
                  refine norm_ (a' := ?_) ?_ ?_
                  rotate_left
                  ·simp only [putAll, Act.put, List.setIfInBounds_toArray, List.set_cons_zero, List.set_cons_succ]
                   rfl
                  refine two_ (i := 22) (j := 24) (Ni := some 33) (Nj := some 35) (bz28_ 28 8388607) (bz28_ 28 20971519) rfl rfl rfl rfl (two_of HT_.out (by kernel_rfl)) (by decide) (by decide) (fun K hK => ?_) (fun K hK => ?_)
                  ·skip
                   refine goes_ Tryd.func50 (by kernel_rfl) rfl #[.string ((rd_T56 l0 x4_1).f2)] (by rfl) rfl rfl (by (try simp only [List.map_toArray, List.map_cons, List.map_nil]); first | done | rfl | (simp only [List.length_drop, List.length_take]; rfl)) ?_
                   with_reducible refine (orielref25_Quote.calls k1 ((rd_T56 l0 x4_1).f2) t249 _ A10.out).mono ?_
                   rintro e w17 ⟨rfl, hb⟩
                   refine ⟨_, rfl, ?_⟩
                   have n0_ := Aside0.mk (below_step (by exact HB.out) hb)
                   clear HB
                   have HB := n0_
                   clear n0_
                   refine hK.out _ _ ⟨((HB.out.cell (World.block_lt_of_cell? w _ hw244_0)).trans hw244_0), ((HB.out.cell (World.block_lt_of_cell? w _ hw244_1)).trans hw244_1), ((HB.out.cell (World.block_lt_of_cell? w _ hw244_2)).trans hw244_2), ((HB.out.cell (World.block_lt_of_cell? w _ hw246_0)).trans hw246_0), ((HB.out.cell (World.block_lt_of_cell? w _ hw246_1)).trans hw246_1), ((HB.out.cell (World.block_lt_of_cell? w _ hw246_2)).trans hw246_2), ((HB.out.cell (World.block_lt_of_cell? w _ hw248_0)).trans hw248_0), ((HB.out.cell (World.block_lt_of_cell? w _ hw248_1)).trans hw248_1), ((HB.out.cell (World.block_lt_of_cell? w _ hw248_2)).trans hw248_2)⟩ (fun hHeld => ?_)
                   clear hK K
                   refine norm_ (a' := ?_) ?_ ?_
                   rotate_left
                   ·show Act.put _ (some 33) _ = _
                    simp only [Act.put, List.setIfInBounds_toArray, List.set_cons_zero, List.set_cons_succ, i64_w, i32_w]
                    rfl
                   refine pure_ (i := 23) (N := some 34) (v := ?_) (a' := ?_) (bz28_ 28 16777215) rfl rfl (any_of HT_.out (by kernel_rfl)) (fun _ _ _ h => h) (Or.inl ⟨by rfl, ?_⟩) ?_ ?_
                   rotate_left
                   ·intro w'
                    go_simp
                    with_reducible rfl
                   rotate_left
                   ·simp only [Act.put, List.setIfInBounds_toArray, List.set_cons_zero, List.set_cons_succ, i64_w, i32_w]
                    rfl
                   exact norm_ (by first | (simp only [putAll, Act.put, List.setIfInBounds_toArray, List.set_cons_zero, List.set_cons_succ]; done) | (simp only [putAll, Act.put, List.setIfInBounds_toArray, List.set_cons_zero, List.set_cons_succ]; rfl)) (hJ6_14_22 () _ ⟨hHeld, (by exact HB.out)⟩)
                  ·skip
                   refine Kd.R_lit_step (Kd.int .u8) _ 5 ?hg (N := 35) ?hd (xs := ([10] : List Int)) (inner := [.int .u8 10]) (ok := fun _ => True) (okp := fun _ => True) ?hr ?hp (fun _ hk => hk) trivial (Below.refl _ _) (Nat.le_refl _) (by simp) ?_; (case hd => rfl); (case hg => rfl); (case hr => first | (go_simp; done) | (go_simp; rfl)); (case hp => exact (Reps.one (show Kd.M (Kd.int .u8) _ _ _ 10 [.int .u8 10] from rfl) (Reps.none _ _)))
                   intro v251 w17 ho18 hb hg_ hnew_
                   clear hg_ hnew_
                   (first | rw [← Ny250.out] at ho18 | (simp only [Int.reduceToNat] at ho18; rw [← Ny250.out] at ho18))
                   have n0_ := Aside0.mk (Kd.R_lower ho18 (below_size (by exact HB.out)))
                   have n1_ := Aside0.mk (below_step (by exact HB.out) hb)
                   clear HB
                   have HO252 := n0_
                   have HB := n1_
                   clear n0_ n1_
                   clear hb ho18
                   refine hK.out _ _ ⟨((HB.out.cell (World.block_lt_of_cell? w _ hw244_0)).trans hw244_0), ((HB.out.cell (World.block_lt_of_cell? w _ hw244_1)).trans hw244_1), ((HB.out.cell (World.block_lt_of_cell? w _ hw244_2)).trans hw244_2), ((HB.out.cell (World.block_lt_of_cell? w _ hw246_0)).trans hw246_0), ((HB.out.cell (World.block_lt_of_cell? w _ hw246_1)).trans hw246_1), ((HB.out.cell (World.block_lt_of_cell? w _ hw246_2)).trans hw246_2), ((HB.out.cell (World.block_lt_of_cell? w _ hw248_0)).trans hw248_0), ((HB.out.cell (World.block_lt_of_cell? w _ hw248_1)).trans hw248_1), ((HB.out.cell (World.block_lt_of_cell? w _ hw248_2)).trans hw248_2)⟩ (fun hHeld => ?_)
                   clear hK K
                   refine norm_ (a' := ?_) ?_ ?_
                   rotate_left
                   ·show Act.put _ (some 35) _ = _
                    simp only [Act.put, List.setIfInBounds_toArray, List.set_cons_zero, List.set_cons_succ, i64_w, i32_w]
                    rfl
                   exact norm_ (by first | (simp only [putAll, Act.put, List.setIfInBounds_toArray, List.set_cons_zero, List.set_cons_succ]; done) | (simp only [putAll, Act.put, List.setIfInBounds_toArray, List.set_cons_zero, List.set_cons_succ]; rfl)) (hJ6_14_24 (v251) _ ⟨hHeld, (by exact HO252.out), (by exact HB.out)⟩)
                ·skip
                 rintro v251 w18 ⟨hS_, h0_, h1_⟩
                 have n0_ : Aside0 (Kd.R (Kd.int .u8) 5 w18 w.heap.size (fun _ => True) v251 y250) := ⟨h0_⟩
                 have n1_ : Aside0 (Below w.heap.size w w18) := ⟨h1_⟩
                 clear HB
                 clear h0_ h1_
                 have HO252 := n0_
                 have HB := n1_
                 clear n0_ n1_
                 have hHeld : w18.cell? (ad244.add ((x4_1).toNat * 3)) = some (.int .i64 ((rd_T56 l0 x4_1).f0)) ∧ w18.cell? ⟨(ad244.add ((x4_1).toNat * 3)).block, (ad244.add ((x4_1).toNat * 3)).off + 1, none⟩ = some (.int .i64 ((rd_T56 l0 x4_1).f1)) ∧ w18.cell? ⟨(ad244.add ((x4_1).toNat * 3)).block, (ad244.add ((x4_1).toNat * 3)).off + 2, none⟩ = some (.string ((rd_T56 l0 x4_1).f2)) ∧ w18.cell? (ad244.add ((x4_1).toNat * 3)) = some (.int .i64 ((rd_T56 l0 x4_1).f0)) ∧ w18.cell? ⟨(ad244.add ((x4_1).toNat * 3)).block, (ad244.add ((x4_1).toNat * 3)).off + 1, none⟩ = some (.int .i64 ((rd_T56 l0 x4_1).f1)) ∧ w18.cell? ⟨(ad244.add ((x4_1).toNat * 3)).block, (ad244.add ((x4_1).toNat * 3)).off + 2, none⟩ = some (.string ((rd_T56 l0 x4_1).f2)) ∧ w18.cell? (ad244.add ((x4_1).toNat * 3)) = some (.int .i64 ((rd_T56 l0 x4_1).f0)) ∧ w18.cell? ⟨(ad244.add ((x4_1).toNat * 3)).block, (ad244.add ((x4_1).toNat * 3)).off + 1, none⟩ = some (.int .i64 ((rd_T56 l0 x4_1).f1)) ∧ w18.cell? ⟨(ad244.add ((x4_1).toNat * 3)).block, (ad244.add ((x4_1).toNat * 3)).off + 2, none⟩ = some (.string ((rd_T56 l0 x4_1).f2)) := hS_
                 refine norm_ (a' := ?_) ?_ ?_
                 rotate_left
                 ·simp only [putAll, Act.put, List.setIfInBounds_toArray, List.set_cons_zero, List.set_cons_succ]
                  rfl
                 refine one_ (i := 14) (N := some 25) (bz28_ 28 54427647) rfl rfl (one_of HT_.out (by kernel_rfl)) (by decide) (fun K hK => ?_)
                 refine goes_ Tryd.func49 (by kernel_rfl) rfl #[.int .i64 ((rd_T56 l0 x4_1).f1)] (by rfl) rfl rfl (by (try simp only [List.map_toArray, List.map_cons, List.map_nil]); first | done | rfl | (simp only [List.length_drop, List.length_take]; rfl)) ?_
                 with_reducible refine (orielref25_Dec.calls k1 ((rd_T56 l0 x4_1).f1) t247 _ A7.out).mono ?_
                 rintro e w19 ⟨rfl, hb⟩
                 refine ⟨_, rfl, ?_⟩
                 have n0_ := Aside0.mk (Kd.R_below (by exact HO252.out) hb)
                 have n1_ := Aside0.mk (below_step (by exact HB.out) hb)
                 clear HO252
                 clear HB
                 have HO252 := n0_
                 have HB := n1_
                 clear n0_ n1_
                 refine hK.out _ _ ⟨((HB.out.cell (World.block_lt_of_cell? w _ hw244_0)).trans hw244_0), ((HB.out.cell (World.block_lt_of_cell? w _ hw244_1)).trans hw244_1), ((HB.out.cell (World.block_lt_of_cell? w _ hw244_2)).trans hw244_2), ((HB.out.cell (World.block_lt_of_cell? w _ hw246_0)).trans hw246_0), ((HB.out.cell (World.block_lt_of_cell? w _ hw246_1)).trans hw246_1), ((HB.out.cell (World.block_lt_of_cell? w _ hw246_2)).trans hw246_2), ((HB.out.cell (World.block_lt_of_cell? w _ hw248_0)).trans hw248_0), ((HB.out.cell (World.block_lt_of_cell? w _ hw248_1)).trans hw248_1), ((HB.out.cell (World.block_lt_of_cell? w _ hw248_2)).trans hw248_2)⟩ (fun hHeld => ?_)
                 clear hK K
                 refine norm_ (a' := ?_) ?_ ?_
                 rotate_left
                 ·show Act.put _ (some 25) _ = _
                  simp only [Act.put, List.setIfInBounds_toArray, List.set_cons_zero, List.set_cons_succ, i64_w, i32_w]
                  rfl
                 refine pure_ (i := 15) (N := some 26) (v := ?_) (a' := ?_) (bz28_ 28 54460415) rfl rfl (any_of HT_.out (by kernel_rfl)) (fun _ _ _ h => h) (Or.inl ⟨by rfl, ?_⟩) ?_ ?_
                 rotate_left
                 ·intro w'
                  go_simp
                  with_reducible rfl
                 rotate_left
                 ·simp only [Act.put, List.setIfInBounds_toArray, List.set_cons_zero, List.set_cons_succ, i64_w, i32_w]
                  rfl
                 refine pure_ (i := 16) (N := some 27) (v := ?_) (a' := ?_) (bz28_ 28 54525951) rfl rfl (any_of HT_.out (by kernel_rfl)) (fun _ _ _ h => h) (Or.inl ⟨by rfl, ?_⟩) ?_ ?_
                 rotate_left
                 ·intro w'
                  go_simp
                  with_reducible rfl
                 rotate_left
                 ·simp only [Act.put, List.setIfInBounds_toArray, List.set_cons_zero, List.set_cons_succ, i64_w, i32_w]
                  rfl
                 exact norm_ (by first | (simp only [putAll, Act.put, List.setIfInBounds_toArray, List.set_cons_zero, List.set_cons_succ]; done) | (simp only [putAll, Act.put, List.setIfInBounds_toArray, List.set_cons_zero, List.set_cons_succ]; rfl)) (hJ6_14_24_25 (v251) _ ⟨hHeld, (by exact HO252.out), (by exact HB.out)⟩)
               ·skip
                rintro v251 w18 ⟨hS_, h0_, h1_⟩
                have n0_ : Aside0 (Kd.R (Kd.int .u8) 5 w18 w.heap.size (fun _ => True) v251 y250) := ⟨h0_⟩
                have n1_ : Aside0 (Below w.heap.size w w18) := ⟨h1_⟩
                clear HB
                clear h0_ h1_
                have HO252 := n0_
                have HB := n1_
                clear n0_ n1_
                have hHeld : w18.cell? (ad244.add ((x4_1).toNat * 3)) = some (.int .i64 ((rd_T56 l0 x4_1).f0)) ∧ w18.cell? ⟨(ad244.add ((x4_1).toNat * 3)).block, (ad244.add ((x4_1).toNat * 3)).off + 1, none⟩ = some (.int .i64 ((rd_T56 l0 x4_1).f1)) ∧ w18.cell? ⟨(ad244.add ((x4_1).toNat * 3)).block, (ad244.add ((x4_1).toNat * 3)).off + 2, none⟩ = some (.string ((rd_T56 l0 x4_1).f2)) ∧ w18.cell? (ad244.add ((x4_1).toNat * 3)) = some (.int .i64 ((rd_T56 l0 x4_1).f0)) ∧ w18.cell? ⟨(ad244.add ((x4_1).toNat * 3)).block, (ad244.add ((x4_1).toNat * 3)).off + 1, none⟩ = some (.int .i64 ((rd_T56 l0 x4_1).f1)) ∧ w18.cell? ⟨(ad244.add ((x4_1).toNat * 3)).block, (ad244.add ((x4_1).toNat * 3)).off + 2, none⟩ = some (.string ((rd_T56 l0 x4_1).f2)) ∧ w18.cell? (ad244.add ((x4_1).toNat * 3)) = some (.int .i64 ((rd_T56 l0 x4_1).f0)) ∧ w18.cell? ⟨(ad244.add ((x4_1).toNat * 3)).block, (ad244.add ((x4_1).toNat * 3)).off + 1, none⟩ = some (.int .i64 ((rd_T56 l0 x4_1).f1)) ∧ w18.cell? ⟨(ad244.add ((x4_1).toNat * 3)).block, (ad244.add ((x4_1).toNat * 3)).off + 2, none⟩ = some (.string ((rd_T56 l0 x4_1).f2)) := hS_
                refine norm_ (a' := ?_) ?_ ?_
                rotate_left
                ·simp only [putAll, Act.put, List.setIfInBounds_toArray, List.set_cons_zero, List.set_cons_succ]
                 rfl
                refine two_ (i := 22) (j := 25) (Ni := some 33) (Nj := some 36) (bz28_ 28 25165823) (bz28_ 28 54525951) rfl rfl rfl rfl (two_of HT_.out (by kernel_rfl)) (by decide) (by decide) (fun K hK => ?_) (fun K hK => ?_)
                ·skip
                 refine goes_ Tryd.func50 (by kernel_rfl) rfl #[.string ((rd_T56 l0 x4_1).f2)] (by rfl) rfl rfl (by (try simp only [List.map_toArray, List.map_cons, List.map_nil]); first | done | rfl | (simp only [List.length_drop, List.length_take]; rfl)) ?_
                 with_reducible refine (orielref25_Quote.calls k1 ((rd_T56 l0 x4_1).f2) t249 _ A10.out).mono ?_
                 rintro e w19 ⟨rfl, hb⟩
                 refine ⟨_, rfl, ?_⟩
                 have n0_ := Aside0.mk (Kd.R_below (by exact HO252.out) hb)
                 have n1_ := Aside0.mk (below_step (by exact HB.out) hb)
                 clear HO252
                 clear HB
                 have HO252 := n0_
                 have HB := n1_
                 clear n0_ n1_
                 refine hK.out _ _ ⟨((HB.out.cell (World.block_lt_of_cell? w _ hw244_0)).trans hw244_0), ((HB.out.cell (World.block_lt_of_cell? w _ hw244_1)).trans hw244_1), ((HB.out.cell (World.block_lt_of_cell? w _ hw244_2)).trans hw244_2), ((HB.out.cell (World.block_lt_of_cell? w _ hw246_0)).trans hw246_0), ((HB.out.cell (World.block_lt_of_cell? w _ hw246_1)).trans hw246_1), ((HB.out.cell (World.block_lt_of_cell? w _ hw246_2)).trans hw246_2), ((HB.out.cell (World.block_lt_of_cell? w _ hw248_0)).trans hw248_0), ((HB.out.cell (World.block_lt_of_cell? w _ hw248_1)).trans hw248_1), ((HB.out.cell (World.block_lt_of_cell? w _ hw248_2)).trans hw248_2)⟩ (fun hHeld => ?_)
                 clear hK K
                 refine norm_ (a' := ?_) ?_ ?_
                 rotate_left
                 ·show Act.put _ (some 33) _ = _
                  simp only [Act.put, List.setIfInBounds_toArray, List.set_cons_zero, List.set_cons_succ, i64_w, i32_w]
                  rfl
                 refine pure_ (i := 23) (N := some 34) (v := ?_) (a' := ?_) (bz28_ 28 33554431) rfl rfl (any_of HT_.out (by kernel_rfl)) (fun _ _ _ h => h) (Or.inl ⟨by rfl, ?_⟩) ?_ ?_
                 rotate_left
                 ·intro w'
                  go_simp
                  with_reducible rfl
                 rotate_left
                 ·simp only [Act.put, List.setIfInBounds_toArray, List.set_cons_zero, List.set_cons_succ, i64_w, i32_w]
                  rfl
                 exact norm_ (by first | (simp only [putAll, Act.put, List.setIfInBounds_toArray, List.set_cons_zero, List.set_cons_succ]; done) | (simp only [putAll, Act.put, List.setIfInBounds_toArray, List.set_cons_zero, List.set_cons_succ]; rfl)) (hJ6_14_22_24 (v251) _ ⟨hHeld, (by exact HO252.out), (by exact HB.out)⟩)
                ·skip
                 have hcv19 := own_string (P := Tryd.prog) Tryd.underlying77 Tryd.underlying5 Tryd.underlying9 (Kd.own_of_R HO252.out); have hcv19m := fun m_ => own_string (P := Tryd.prog) Tryd.underlying77 Tryd.underlying5 Tryd.underlying9 (Kd.own_of_R (Kd.R_drewN HO252.out m_))
                 refine value_ (w1 := ?_) (v := ?_) (by rfl) rfl ?_ ?_
                 rotate_left 2
                 ·go_simp
                  constructor
                  ·rfl
                  ·rfl
                 clear hcv19
                 refine hK.out _ _ ⟨((HB.out.cell (World.block_lt_of_cell? w _ hw244_0)).trans hw244_0), ((HB.out.cell (World.block_lt_of_cell? w _ hw244_1)).trans hw244_1), ((HB.out.cell (World.block_lt_of_cell? w _ hw244_2)).trans hw244_2), ((HB.out.cell (World.block_lt_of_cell? w _ hw246_0)).trans hw246_0), ((HB.out.cell (World.block_lt_of_cell? w _ hw246_1)).trans hw246_1), ((HB.out.cell (World.block_lt_of_cell? w _ hw246_2)).trans hw246_2), ((HB.out.cell (World.block_lt_of_cell? w _ hw248_0)).trans hw248_0), ((HB.out.cell (World.block_lt_of_cell? w _ hw248_1)).trans hw248_1), ((HB.out.cell (World.block_lt_of_cell? w _ hw248_2)).trans hw248_2)⟩ (fun hHeld => ?_)
                 clear hK K
                 refine norm_ (a' := ?_) ?_ ?_
                 rotate_left
                 ·show Act.put _ (some 36) _ = _
                  simp only [Act.put, List.setIfInBounds_toArray, List.set_cons_zero, List.set_cons_succ, i64_w, i32_w]
                  rfl
                 exact norm_ (by first | (simp only [putAll, Act.put, List.setIfInBounds_toArray, List.set_cons_zero, List.set_cons_succ]; done) | (simp only [putAll, Act.put, List.setIfInBounds_toArray, List.set_cons_zero, List.set_cons_succ]; rfl)) (hJ6_14_24_25 (v251) _ ⟨hHeld, (by exact HO252.out), (by exact HB.out)⟩)
              ·skip
               rintro _ w17 ⟨hS_, h0_⟩
               have n0_ : Aside0 (Below w.heap.size w w17) := ⟨h0_⟩
               clear HB
               clear h0_
               have HB := n0_
               clear n0_
               have hHeld : w17.cell? (ad244.add ((x4_1).toNat * 3)) = some (.int .i64 ((rd_T56 l0 x4_1).f0)) ∧ w17.cell? ⟨(ad244.add ((x4_1).toNat * 3)).block, (ad244.add ((x4_1).toNat * 3)).off + 1, none⟩ = some (.int .i64 ((rd_T56 l0 x4_1).f1)) ∧ w17.cell? ⟨(ad244.add ((x4_1).toNat * 3)).block, (ad244.add ((x4_1).toNat * 3)).off + 2, none⟩ = some (.string ((rd_T56 l0 x4_1).f2)) ∧ w17.cell? (ad244.add ((x4_1).toNat * 3)) = some (.int .i64 ((rd_T56 l0 x4_1).f0)) ∧ w17.cell? ⟨(ad244.add ((x4_1).toNat * 3)).block, (ad244.add ((x4_1).toNat * 3)).off + 1, none⟩ = some (.int .i64 ((rd_T56 l0 x4_1).f1)) ∧ w17.cell? ⟨(ad244.add ((x4_1).toNat * 3)).block, (ad244.add ((x4_1).toNat * 3)).off + 2, none⟩ = some (.string ((rd_T56 l0 x4_1).f2)) ∧ w17.cell? (ad244.add ((x4_1).toNat * 3)) = some (.int .i64 ((rd_T56 l0 x4_1).f0)) ∧ w17.cell? ⟨(ad244.add ((x4_1).toNat * 3)).block, (ad244.add ((x4_1).toNat * 3)).off + 1, none⟩ = some (.int .i64 ((rd_T56 l0 x4_1).f1)) ∧ w17.cell? ⟨(ad244.add ((x4_1).toNat * 3)).block, (ad244.add ((x4_1).toNat * 3)).off + 2, none⟩ = some (.string ((rd_T56 l0 x4_1).f2)) := hS_
               refine norm_ (a' := ?_) ?_ ?_
               rotate_left
               ·simp only [putAll, Act.put, List.setIfInBounds_toArray, List.set_cons_zero, List.set_cons_succ]
                rfl
               refine one_ (i := 24) (N := some 35) (bz28_ 28 33554431) rfl rfl (one_of HT_.out (by kernel_rfl)) (by decide) (fun K hK => ?_)
               refine Kd.R_lit_step (Kd.int .u8) _ 5 ?hg (N := 35) ?hd (xs := ([10] : List Int)) (inner := [.int .u8 10]) (ok := fun _ => True) (okp := fun _ => True) ?hr ?hp (fun _ hk => hk) trivial (Below.refl _ _) (Nat.le_refl _) (by simp) ?_; (case hd => rfl); (case hg => rfl); (case hr => first | (go_simp; done) | (go_simp; rfl)); (case hp => exact (Reps.one (show Kd.M (Kd.int .u8) _ _ _ 10 [.int .u8 10] from rfl) (Reps.none _ _)))
               intro v251 w18 ho19 hb hg_ hnew_
               clear hg_ hnew_
               (first | rw [← Ny250.out] at ho19 | (simp only [Int.reduceToNat] at ho19; rw [← Ny250.out] at ho19))
               have n0_ := Aside0.mk (Kd.R_lower ho19 (below_size (by exact HB.out)))
               have n1_ := Aside0.mk (below_step (by exact HB.out) hb)
               clear HB
               have HO252 := n0_
               have HB := n1_
               clear n0_ n1_
               clear hb ho19
               refine hK.out _ _ ⟨((HB.out.cell (World.block_lt_of_cell? w _ hw244_0)).trans hw244_0), ((HB.out.cell (World.block_lt_of_cell? w _ hw244_1)).trans hw244_1), ((HB.out.cell (World.block_lt_of_cell? w _ hw244_2)).trans hw244_2), ((HB.out.cell (World.block_lt_of_cell? w _ hw246_0)).trans hw246_0), ((HB.out.cell (World.block_lt_of_cell? w _ hw246_1)).trans hw246_1), ((HB.out.cell (World.block_lt_of_cell? w _ hw246_2)).trans hw246_2), ((HB.out.cell (World.block_lt_of_cell? w _ hw248_0)).trans hw248_0), ((HB.out.cell (World.block_lt_of_cell? w _ hw248_1)).trans hw248_1), ((HB.out.cell (World.block_lt_of_cell? w _ hw248_2)).trans hw248_2)⟩ (fun hHeld => ?_)
               clear hK K
               refine norm_ (a' := ?_) ?_ ?_
               rotate_left
               ·show Act.put _ (some 35) _ = _
                simp only [Act.put, List.setIfInBounds_toArray, List.set_cons_zero, List.set_cons_succ, i64_w, i32_w]
                rfl
               exact norm_ (by first | (simp only [putAll, Act.put, List.setIfInBounds_toArray, List.set_cons_zero, List.set_cons_succ]; done) | (simp only [putAll, Act.put, List.setIfInBounds_toArray, List.set_cons_zero, List.set_cons_succ]; rfl)) (hJ6_14_22_24 (v251) _ ⟨hHeld, (by exact HO252.out), (by exact HB.out)⟩)
             ·skip
              rintro v251 w19 ⟨hS_, h0_, h1_⟩
              have n0_ : Aside0 (Kd.R (Kd.int .u8) 5 w19 w.heap.size (fun _ => True) v251 y250) := ⟨h0_⟩
              have n1_ : Aside0 (Below w.heap.size w w19) := ⟨h1_⟩
              clear HB
              clear h0_ h1_
              have HO252 := n0_
              have HB := n1_
              clear n0_ n1_
              have hHeld : w19.cell? (ad244.add ((x4_1).toNat * 3)) = some (.int .i64 ((rd_T56 l0 x4_1).f0)) ∧ w19.cell? ⟨(ad244.add ((x4_1).toNat * 3)).block, (ad244.add ((x4_1).toNat * 3)).off + 1, none⟩ = some (.int .i64 ((rd_T56 l0 x4_1).f1)) ∧ w19.cell? ⟨(ad244.add ((x4_1).toNat * 3)).block, (ad244.add ((x4_1).toNat * 3)).off + 2, none⟩ = some (.string ((rd_T56 l0 x4_1).f2)) ∧ w19.cell? (ad244.add ((x4_1).toNat * 3)) = some (.int .i64 ((rd_T56 l0 x4_1).f0)) ∧ w19.cell? ⟨(ad244.add ((x4_1).toNat * 3)).block, (ad244.add ((x4_1).toNat * 3)).off + 1, none⟩ = some (.int .i64 ((rd_T56 l0 x4_1).f1)) ∧ w19.cell? ⟨(ad244.add ((x4_1).toNat * 3)).block, (ad244.add ((x4_1).toNat * 3)).off + 2, none⟩ = some (.string ((rd_T56 l0 x4_1).f2)) ∧ w19.cell? (ad244.add ((x4_1).toNat * 3)) = some (.int .i64 ((rd_T56 l0 x4_1).f0)) ∧ w19.cell? ⟨(ad244.add ((x4_1).toNat * 3)).block, (ad244.add ((x4_1).toNat * 3)).off + 1, none⟩ = some (.int .i64 ((rd_T56 l0 x4_1).f1)) ∧ w19.cell? ⟨(ad244.add ((x4_1).toNat * 3)).block, (ad244.add ((x4_1).toNat * 3)).off + 2, none⟩ = some (.string ((rd_T56 l0 x4_1).f2)) := hS_
              refine norm_ (a' := ?_) ?_ ?_
              rotate_left
              ·simp only [putAll, Act.put, List.setIfInBounds_toArray, List.set_cons_zero, List.set_cons_succ]
               rfl
              refine one_ (i := 22) (N := some 33) (bz28_ 28 58720255) rfl rfl (one_of HT_.out (by kernel_rfl)) (by decide) (fun K hK => ?_)
              refine goes_ Tryd.func50 (by kernel_rfl) rfl #[.string ((rd_T56 l0 x4_1).f2)] (by rfl) rfl rfl (by (try simp only [List.map_toArray, List.map_cons, List.map_nil]); first | done | rfl | (simp only [List.length_drop, List.length_take]; rfl)) ?_
              with_reducible refine (orielref25_Quote.calls k1 ((rd_T56 l0 x4_1).f2) t249 _ A10.out).mono ?_
              rintro e w20 ⟨rfl, hb⟩
              refine ⟨_, rfl, ?_⟩
              have n0_ := Aside0.mk (Kd.R_below (by exact HO252.out) hb)
              have n1_ := Aside0.mk (below_step (by exact HB.out) hb)
              clear HO252
              clear HB
              have HO252 := n0_
              have HB := n1_
              clear n0_ n1_
              refine hK.out _ _ ⟨((HB.out.cell (World.block_lt_of_cell? w _ hw244_0)).trans hw244_0), ((HB.out.cell (World.block_lt_of_cell? w _ hw244_1)).trans hw244_1), ((HB.out.cell (World.block_lt_of_cell? w _ hw244_2)).trans hw244_2), ((HB.out.cell (World.block_lt_of_cell? w _ hw246_0)).trans hw246_0), ((HB.out.cell (World.block_lt_of_cell? w _ hw246_1)).trans hw246_1), ((HB.out.cell (World.block_lt_of_cell? w _ hw246_2)).trans hw246_2), ((HB.out.cell (World.block_lt_of_cell? w _ hw248_0)).trans hw248_0), ((HB.out.cell (World.block_lt_of_cell? w _ hw248_1)).trans hw248_1), ((HB.out.cell (World.block_lt_of_cell? w _ hw248_2)).trans hw248_2)⟩ (fun hHeld => ?_)
              clear hK K
              refine norm_ (a' := ?_) ?_ ?_
              rotate_left
              ·show Act.put _ (some 33) _ = _
               simp only [Act.put, List.setIfInBounds_toArray, List.set_cons_zero, List.set_cons_succ, i64_w, i32_w]
               rfl
              refine pure_ (i := 23) (N := some 34) (v := ?_) (a' := ?_) (bz28_ 28 67108863) rfl rfl (any_of HT_.out (by kernel_rfl)) (fun _ _ _ h => h) (Or.inl ⟨by rfl, ?_⟩) ?_ ?_
              rotate_left
              ·intro w'
               go_simp
               with_reducible rfl
              rotate_left
              ·simp only [Act.put, List.setIfInBounds_toArray, List.set_cons_zero, List.set_cons_succ, i64_w, i32_w]
               rfl
              exact norm_ (by first | (simp only [putAll, Act.put, List.setIfInBounds_toArray, List.set_cons_zero, List.set_cons_succ]; done) | (simp only [putAll, Act.put, List.setIfInBounds_toArray, List.set_cons_zero, List.set_cons_succ]; rfl)) (hJ6_14_22_24_25 (v251) _ ⟨hHeld, (by exact HO252.out), (by exact HB.out)⟩)
            ·skip
             rintro v251 w19 ⟨hS_, h0_, h1_⟩
             have n0_ : Aside0 (Kd.R (Kd.int .u8) 5 w19 w.heap.size (fun _ => True) v251 y250) := ⟨h0_⟩
             have n1_ : Aside0 (Below w.heap.size w w19) := ⟨h1_⟩
             clear HB
             clear h0_ h1_
             have HO252 := n0_
             have HB := n1_
             clear n0_ n1_
             have hHeld : w19.cell? (ad244.add ((x4_1).toNat * 3)) = some (.int .i64 ((rd_T56 l0 x4_1).f0)) ∧ w19.cell? ⟨(ad244.add ((x4_1).toNat * 3)).block, (ad244.add ((x4_1).toNat * 3)).off + 1, none⟩ = some (.int .i64 ((rd_T56 l0 x4_1).f1)) ∧ w19.cell? ⟨(ad244.add ((x4_1).toNat * 3)).block, (ad244.add ((x4_1).toNat * 3)).off + 2, none⟩ = some (.string ((rd_T56 l0 x4_1).f2)) ∧ w19.cell? (ad244.add ((x4_1).toNat * 3)) = some (.int .i64 ((rd_T56 l0 x4_1).f0)) ∧ w19.cell? ⟨(ad244.add ((x4_1).toNat * 3)).block, (ad244.add ((x4_1).toNat * 3)).off + 1, none⟩ = some (.int .i64 ((rd_T56 l0 x4_1).f1)) ∧ w19.cell? ⟨(ad244.add ((x4_1).toNat * 3)).block, (ad244.add ((x4_1).toNat * 3)).off + 2, none⟩ = some (.string ((rd_T56 l0 x4_1).f2)) ∧ w19.cell? (ad244.add ((x4_1).toNat * 3)) = some (.int .i64 ((rd_T56 l0 x4_1).f0)) ∧ w19.cell? ⟨(ad244.add ((x4_1).toNat * 3)).block, (ad244.add ((x4_1).toNat * 3)).off + 1, none⟩ = some (.int .i64 ((rd_T56 l0 x4_1).f1)) ∧ w19.cell? ⟨(ad244.add ((x4_1).toNat * 3)).block, (ad244.add ((x4_1).toNat * 3)).off + 2, none⟩ = some (.string ((rd_T56 l0 x4_1).f2)) := hS_
             refine norm_ (a' := ?_) ?_ ?_
             rotate_left
             ·simp only [putAll, Act.put, List.setIfInBounds_toArray, List.set_cons_zero, List.set_cons_succ]
              rfl
             refine one_ (i := 25) (N := some 36) (bz28_ 28 67108863) rfl rfl (one_of HT_.out (by kernel_rfl)) (by decide) (fun K hK => ?_)
             have hcv20 := own_string (P := Tryd.prog) Tryd.underlying77 Tryd.underlying5 Tryd.underlying9 (Kd.own_of_R HO252.out); have hcv20m := fun m_ => own_string (P := Tryd.prog) Tryd.underlying77 Tryd.underlying5 Tryd.underlying9 (Kd.own_of_R (Kd.R_drewN HO252.out m_))
             refine value_ (w1 := ?_) (v := ?_) (by rfl) rfl ?_ ?_
             rotate_left 2
             ·go_simp
              constructor
              ·rfl
              ·rfl
             clear hcv20
             refine hK.out _ _ ⟨((HB.out.cell (World.block_lt_of_cell? w _ hw244_0)).trans hw244_0), ((HB.out.cell (World.block_lt_of_cell? w _ hw244_1)).trans hw244_1), ((HB.out.cell (World.block_lt_of_cell? w _ hw244_2)).trans hw244_2), ((HB.out.cell (World.block_lt_of_cell? w _ hw246_0)).trans hw246_0), ((HB.out.cell (World.block_lt_of_cell? w _ hw246_1)).trans hw246_1), ((HB.out.cell (World.block_lt_of_cell? w _ hw246_2)).trans hw246_2), ((HB.out.cell (World.block_lt_of_cell? w _ hw248_0)).trans hw248_0), ((HB.out.cell (World.block_lt_of_cell? w _ hw248_1)).trans hw248_1), ((HB.out.cell (World.block_lt_of_cell? w _ hw248_2)).trans hw248_2)⟩ (fun hHeld => ?_)
             clear hK K
             refine norm_ (a' := ?_) ?_ ?_
             rotate_left
             ·show Act.put _ (some 36) _ = _
              simp only [Act.put, List.setIfInBounds_toArray, List.set_cons_zero, List.set_cons_succ, i64_w, i32_w]
              rfl
             exact norm_ (by first | (simp only [putAll, Act.put, List.setIfInBounds_toArray, List.set_cons_zero, List.set_cons_succ]; done) | (simp only [putAll, Act.put, List.setIfInBounds_toArray, List.set_cons_zero, List.set_cons_succ]; rfl)) (hJ6_14_22_24_25 (v251) _ ⟨hHeld, (by exact HO252.out), (by exact HB.out)⟩)
           rintro v251 w20 ⟨hS_, h0_, h1_⟩
           have n0_ : Aside0 (Kd.R (Kd.int .u8) 5 w20 w.heap.size (fun _ => True) v251 y250) := ⟨h0_⟩
           have n1_ : Aside0 (Below w.heap.size w w20) := ⟨h1_⟩
           clear HB
           clear h0_ h1_
           have HO252 := n0_
           have HB := n1_
           clear n0_ n1_
           have hHeld : w20.cell? (ad244.add ((x4_1).toNat * 3)) = some (.int .i64 ((rd_T56 l0 x4_1).f0)) ∧ w20.cell? ⟨(ad244.add ((x4_1).toNat * 3)).block, (ad244.add ((x4_1).toNat * 3)).off + 1, none⟩ = some (.int .i64 ((rd_T56 l0 x4_1).f1)) ∧ w20.cell? ⟨(ad244.add ((x4_1).toNat * 3)).block, (ad244.add ((x4_1).toNat * 3)).off + 2, none⟩ = some (.string ((rd_T56 l0 x4_1).f2)) ∧ w20.cell? (ad244.add ((x4_1).toNat * 3)) = some (.int .i64 ((rd_T56 l0 x4_1).f0)) ∧ w20.cell? ⟨(ad244.add ((x4_1).toNat * 3)).block, (ad244.add ((x4_1).toNat * 3)).off + 1, none⟩ = some (.int .i64 ((rd_T56 l0 x4_1).f1)) ∧ w20.cell? ⟨(ad244.add ((x4_1).toNat * 3)).block, (ad244.add ((x4_1).toNat * 3)).off + 2, none⟩ = some (.string ((rd_T56 l0 x4_1).f2)) ∧ w20.cell? (ad244.add ((x4_1).toNat * 3)) = some (.int .i64 ((rd_T56 l0 x4_1).f0)) ∧ w20.cell? ⟨(ad244.add ((x4_1).toNat * 3)).block, (ad244.add ((x4_1).toNat * 3)).off + 1, none⟩ = some (.int .i64 ((rd_T56 l0 x4_1).f1)) ∧ w20.cell? ⟨(ad244.add ((x4_1).toNat * 3)).block, (ad244.add ((x4_1).toNat * 3)).off + 2, none⟩ = some (.string ((rd_T56 l0 x4_1).f2)) := hS_
           refine norm_ (a' := ?_) ?_ ?_
           rotate_left
           ·simp only [putAll, Act.put, List.setIfInBounds_toArray, List.set_cons_zero, List.set_cons_succ]
            rfl
           refine pure_ (i := 26) (N := some 37) (v := ?_) (a' := ?_) (bz28_ 28 134217727) rfl rfl (any_of HT_.out (by kernel_rfl)) (fun _ _ _ h => h) (Or.inl ⟨by rfl, ?_⟩) ?_ ?_
           rotate_left
           ·intro w'
            go_simp
            with_reducible rfl
           rotate_left
           ·simp only [Act.put, List.setIfInBounds_toArray, List.set_cons_zero, List.set_cons_succ, i64_w, i32_w]
            rfl
           refine pure_ (i := 27) (N := some 3) (v := ?_) (a' := ?_) (bz28_ 28 268435455) rfl rfl (any_of HT_.out (by kernel_rfl)) (fun _ _ _ h => h) (Or.inl ⟨by rfl, ?_⟩) ?_ ?_
           rotate_left
           ·intro w'
            go_simp
            with_reducible rfl
           rotate_left
           ·simp only [Act.put, List.setIfInBounds_toArray, List.set_cons_zero, List.set_cons_succ, i64_w, i32_w]
            rfl
           refine done_ (done_of HT_.out (by kernel_rfl)) ?_
           try go_wp2
           go_roundg k1
           case measure => have := HK1.out; omega
           case rel => exact ⟨((((((x3_1 ++ t245) ++ (⟨#[32]⟩ : ByteArray)) ++ t247) ++ (⟨#[32]⟩ : ByteArray)) ++ t249) ++ (strOfNums y250)), (wrap64 (x4_1 + 1)), (by first | rfl | (simp; done) | (simp [*]; done)), (by first | rfl | (simp; done) | (simp [*]; done)), H', ⟨by have := HK1.out; omega⟩, ⟨by exact HB.out⟩⟩
          ·rw [if_neg c12] at H
           exact absurd H (by simp)
         ·rw [if_neg c11] at H
          exact absurd H (by simp)
        ·rw [if_neg c9] at H
         exact absurd H (by simp)
       ·rw [if_neg c8] at H
        exact absurd H (by simp)
      ·rw [if_neg c6] at H
       exact absurd H (by simp)
     ·rw [if_neg c5] at H
      exact absurd H (by simp)
    ·rw [if_neg c3] at H
     exact absurd H (by simp)
   ·rw [if_neg c2] at H
    have c2b0 : decide (x4_1 < (l0.length : Int)) = false := decide_eq_false c2
    clear c2
    obtain rfl := Option.some.inj H
    go_wp2
    go_ret
    exact ⟨by first | rfl | (simp [errW_none, errW_some] <;> rfl) | (simp [*, errW_none, errW_some] <;> rfl), by exact HB.out⟩
end Go.Proofs.YtnemooemifbbhaaDoor.PDT
