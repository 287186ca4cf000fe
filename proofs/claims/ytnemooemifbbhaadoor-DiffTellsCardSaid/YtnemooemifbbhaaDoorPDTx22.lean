-- Written by ownprint.py, a program of this session (out of the kit's print, with contracts of the session's own).
import Derived.Test.YtnemooemifbbhaaDoorPDTx0
import Derived.Test.YtnemooemifbbhaaDoorPDTx20
import Derived.Test.YtnemooemifbbhaaDoorPDTx21
namespace Go.Proofs.YtnemooemifbbhaaDoor.PDT
open Go.RowKit Go.Proofs.YtnemooemifbbhaaDoorW.PrintWords Go.Proofs.YtnemooemifbbhaaDoorW.PrintLast Go.Proofs.YtnemooemifbbhaaDoorW.PrintMore
attribute [local go_sem] max2_int min2_int max_two min_two max_three min_three max_four min_four   -- for this text's walks alone
set_option linter.unusedVariables false
set_option linter.unusedSimpArgs false
def bz22_ (n m : Nat) : Array Bool := ((List.range n).map fun i => m.testBit i).toArray
/-! ### orielref26_Unquote: function 47 -/
mutual
def orielref26_Unquote.j0 : Nat → ByteArray → Bool → Option (ByteArray × Bool)
 | 0, _, _ => none
 | k + 1, x0, x22 => if x22 = true then (some ((⟨#[]⟩ : ByteArray), false)) else (orielref26_Unquote.l0 k x0 (⟨#[]⟩ : ByteArray) 1)
def orielref26_Unquote.l0 : Nat → ByteArray → ByteArray → Int → Option (ByteArray × Bool)
 | 0, _, _, _ => none
 | k + 1, x0, x4, x5 => if x5 < (wrap64 ((x0.size : Int) - 1)) then (if 0 ≤ x5 then (if x5 < (x0.size : Int) then (if (bt x0 x5) = 92 then (if (wrap64 (x5 + 1)) ≥ (wrap64 ((x0.size : Int) - 1)) then (some ((⟨#[]⟩ : ByteArray), false)) else (if 0 ≤ (wrap64 (x5 + 1)) then (if (wrap64 (x5 + 1)) < (x0.size : Int) then (if (bt x0 (wrap64 (x5 + 1))) = 110 then ((some (([10] : List Int) : List Int)).bind fun y206 => (if x4.size + (strOfNums y206).size ≤ 9223372036854775807 then (orielref26_Unquote.l0 k x0 (x4 ++ (strOfNums y206)) (wrap64 ((wrap64 (x5 + 1)) + 1))) else (none))) else (if (bt x0 (wrap64 (x5 + 1))) = 34 then (orielref26_Unquote.j2 k x0 x4 (wrap64 (x5 + 1)) (bt x0 (wrap64 (x5 + 1))) true) else (orielref26_Unquote.j2 k x0 x4 (wrap64 (x5 + 1)) (bt x0 (wrap64 (x5 + 1))) ((bt x0 (wrap64 (x5 + 1))) == 92)))) else (none)) else (none))) else (if x5 ≤ (wrap64 (x5 + 1)) then (if (wrap64 (x5 + 1)) ≤ (x0.size : Int) then (if x4.size + (x0.extract (x5 : Int).toNat ((wrap64 (x5 + 1)) : Int).toNat).size ≤ 9223372036854775807 then (orielref26_Unquote.l0 k x0 (x4 ++ (x0.extract (x5 : Int).toNat ((wrap64 (x5 + 1)) : Int).toNat)) (wrap64 (x5 + 1))) else (none)) else (none)) else (none))) else (none)) else (none)) else ((orielref25_Quote.f k x4).bind fun t216 => (if t216.toList = x0.toList then (some (x4, true)) else (some ((⟨#[]⟩ : ByteArray), false))))
def orielref26_Unquote.j2 : Nat → ByteArray → ByteArray → Int → Int → Bool → Option (ByteArray × Bool)
 | 0, _, _, _, _, _ => none
 | k + 1, x0, x4, x5, x6, x63 => if x63 = true then (if 0 ≤ x5 then (if x5 ≤ (wrap64 (x5 + 1)) then (if (wrap64 (x5 + 1)) ≤ (x0.size : Int) then (if x4.size + (x0.extract (x5 : Int).toNat ((wrap64 (x5 + 1)) : Int).toNat).size ≤ 9223372036854775807 then (orielref26_Unquote.l0 k x0 (x4 ++ (x0.extract (x5 : Int).toNat ((wrap64 (x5 + 1)) : Int).toNat)) (wrap64 (x5 + 1))) else (none)) else (none)) else (none)) else (none)) else (if x6 = 120 then (if (wrap64 (x5 + 2)) < (wrap64 ((x0.size : Int) - 1)) then (if 0 ≤ (wrap64 (x5 + 1)) then (if (wrap64 (x5 + 1)) < (x0.size : Int) then ((orielref26_hex.f k (bt x0 (wrap64 (x5 + 1)))).bind fun t209 => (if t209 ≥ 0 then (if 0 ≤ (wrap64 (x5 + 2)) then (if (wrap64 (x5 + 2)) < (x0.size : Int) then ((orielref26_hex.f k (bt x0 (wrap64 (x5 + 2)))).bind fun t210 => (orielref26_Unquote.j3 k x0 x4 x5 (decide (t210 ≥ 0)))) else (none)) else (none)) else (orielref26_Unquote.j3 k x0 x4 x5 false))) else (none)) else (none)) else (orielref26_Unquote.j3 k x0 x4 x5 false)) else (orielref26_Unquote.j3 k x0 x4 x5 false))
def orielref26_Unquote.j3 : Nat → ByteArray → ByteArray → Int → Bool → Option (ByteArray × Bool)
 | 0, _, _, _, _ => none
 | k + 1, x0, x4, x5, x96 => if x96 = true then (if 0 ≤ (wrap64 (x5 + 1)) then (if (wrap64 (x5 + 1)) < (x0.size : Int) then ((orielref26_hex.f k (bt x0 (wrap64 (x5 + 1)))).bind fun t211 => (if 0 ≤ (wrap64 (x5 + 2)) then (if (wrap64 (x5 + 2)) < (x0.size : Int) then ((orielref26_hex.f k (bt x0 (wrap64 (x5 + 2)))).bind fun t212 => ((some (([(wrap64 ((wrap64 (16 * t211)) + t212)) % 256] : List Int) : List Int)).bind fun y213 => (if x4.size + (strOfNums y213).size ≤ 9223372036854775807 then (orielref26_Unquote.l0 k x0 (x4 ++ (strOfNums y213)) (wrap64 ((wrap64 (x5 + 2)) + 1))) else (none)))) else (none)) else (none))) else (none)) else (none)) else (some ((⟨#[]⟩ : ByteArray), false))
end
def orielref26_Unquote.f (k : Nat) (a0 : ByteArray) : Option (ByteArray × Bool) := if (a0.size : Int) < 2 then (orielref26_Unquote.j0 k a0 true) else (if 0 < (a0.size : Int) then (if (bt a0 0) = 34 then (if 0 ≤ (wrap64 ((a0.size : Int) - 1)) then (if (wrap64 ((a0.size : Int) - 1)) < (a0.size : Int) then (orielref26_Unquote.j0 k a0 ((bt a0 (wrap64 ((a0.size : Int) - 1))) != 34)) else (none)) else (none)) else (orielref26_Unquote.j0 k a0 true)) else (none))
theorem orielref26_Unquote.mono_l : ∀ k, (∀ y0 y1, LeO (orielref26_Unquote.j0 k y0 y1) (orielref26_Unquote.j0 (k + 1) y0 y1)) ∧ (∀ y0 y1 y2, LeO (orielref26_Unquote.l0 k y0 y1 y2) (orielref26_Unquote.l0 (k + 1) y0 y1 y2)) ∧ (∀ y0 y1 y2 y3 y4, LeO (orielref26_Unquote.j2 k y0 y1 y2 y3 y4) (orielref26_Unquote.j2 (k + 1) y0 y1 y2 y3 y4)) ∧ (∀ y0 y1 y2 y3, LeO (orielref26_Unquote.j3 k y0 y1 y2 y3) (orielref26_Unquote.j3 (k + 1) y0 y1 y2 y3))
 | 0 => ⟨fun _ _ r h => by simp [orielref26_Unquote.j0] at h, fun _ _ _ r h => by simp [orielref26_Unquote.l0] at h, fun _ _ _ _ _ r h => by simp [orielref26_Unquote.j2] at h, fun _ _ _ _ r h => by simp [orielref26_Unquote.j3] at h⟩
 | k + 1 => by
  obtain ⟨ih0, ih1, ih2, ih3⟩ := orielref26_Unquote.mono_l k
  refine ⟨?_, ?_, ?_, ?_⟩
  ·intro y0 y1
   unfold orielref26_Unquote.j0
   repeat' first
   | (with_reducible exact ih0 _ _)
   | (with_reducible exact ih1 _ _ _)
   | (with_reducible exact ih2 _ _ _ _ _)
   | (with_reducible exact ih3 _ _ _ _)
   | (with_reducible exact orielref25_Quote.mono _ _)
   | (with_reducible exact orielref26_hex.mono _ _)
   | (with_reducible exact LeO.refl _)
   | (with_reducible exact LeO.none _)
   | (with_reducible refine LeO.ite ?_ ?_)
   | (with_reducible refine LeO.bind ?_ (fun _ => ?_))
   | exact ih0 _ _
   | exact ih1 _ _ _
   | exact ih2 _ _ _ _ _
   | exact ih3 _ _ _ _
   | exact orielref25_Quote.mono _ _
   | exact orielref26_hex.mono _ _
   | exact LeO.none _
   | refine LeO.ite ?_ ?_
   | refine LeO.bind ?_ (fun _ => ?_)
  ·intro y0 y1 y2
   unfold orielref26_Unquote.l0
   repeat' first
   | (with_reducible exact ih0 _ _)
   | (with_reducible exact ih1 _ _ _)
   | (with_reducible exact ih2 _ _ _ _ _)
   | (with_reducible exact ih3 _ _ _ _)
   | (with_reducible exact orielref25_Quote.mono _ _)
   | (with_reducible exact orielref26_hex.mono _ _)
   | (with_reducible exact LeO.refl _)
   | (with_reducible exact LeO.none _)
   | (with_reducible refine LeO.ite ?_ ?_)
   | (with_reducible refine LeO.bind ?_ (fun _ => ?_))
   | exact ih0 _ _
   | exact ih1 _ _ _
   | exact ih2 _ _ _ _ _
   | exact ih3 _ _ _ _
   | exact orielref25_Quote.mono _ _
   | exact orielref26_hex.mono _ _
   | exact LeO.none _
   | refine LeO.ite ?_ ?_
   | refine LeO.bind ?_ (fun _ => ?_)
  ·intro y0 y1 y2 y3 y4
   unfold orielref26_Unquote.j2
   repeat' first
   | (with_reducible exact ih0 _ _)
   | (with_reducible exact ih1 _ _ _)
   | (with_reducible exact ih2 _ _ _ _ _)
   | (with_reducible exact ih3 _ _ _ _)
   | (with_reducible exact orielref25_Quote.mono _ _)
   | (with_reducible exact orielref26_hex.mono _ _)
   | (with_reducible exact LeO.refl _)
   | (with_reducible exact LeO.none _)
   | (with_reducible refine LeO.ite ?_ ?_)
   | (with_reducible refine LeO.bind ?_ (fun _ => ?_))
   | exact ih0 _ _
   | exact ih1 _ _ _
   | exact ih2 _ _ _ _ _
   | exact ih3 _ _ _ _
   | exact orielref25_Quote.mono _ _
   | exact orielref26_hex.mono _ _
   | exact LeO.none _
   | refine LeO.ite ?_ ?_
   | refine LeO.bind ?_ (fun _ => ?_)
  ·intro y0 y1 y2 y3
   unfold orielref26_Unquote.j3
   repeat' first
   | (with_reducible exact ih0 _ _)
   | (with_reducible exact ih1 _ _ _)
   | (with_reducible exact ih2 _ _ _ _ _)
   | (with_reducible exact ih3 _ _ _ _)
   | (with_reducible exact orielref25_Quote.mono _ _)
   | (with_reducible exact orielref26_hex.mono _ _)
   | (with_reducible exact LeO.refl _)
   | (with_reducible exact LeO.none _)
   | (with_reducible refine LeO.ite ?_ ?_)
   | (with_reducible refine LeO.bind ?_ (fun _ => ?_))
   | exact ih0 _ _
   | exact ih1 _ _ _
   | exact ih2 _ _ _ _ _
   | exact ih3 _ _ _ _
   | exact orielref25_Quote.mono _ _
   | exact orielref26_hex.mono _ _
   | exact LeO.none _
   | refine LeO.ite ?_ ?_
   | refine LeO.bind ?_ (fun _ => ?_)
theorem orielref26_Unquote.mono : ∀ a0 k, LeO (orielref26_Unquote.f k a0) (orielref26_Unquote.f (k + 1) a0) := by
 intro a0 k
 obtain ⟨ih0, ih1, ih2, ih3⟩ := orielref26_Unquote.mono_l k
 unfold orielref26_Unquote.f
 repeat' first
   | (with_reducible exact ih0 _ _)
   | (with_reducible exact ih1 _ _ _)
   | (with_reducible exact ih2 _ _ _ _ _)
   | (with_reducible exact ih3 _ _ _ _)
   | (with_reducible exact orielref25_Quote.mono _ _)
   | (with_reducible exact orielref26_hex.mono _ _)
   | (with_reducible exact LeO.refl _)
   | (with_reducible exact LeO.none _)
   | (with_reducible refine LeO.ite ?_ ?_)
   | (with_reducible refine LeO.bind ?_ (fun _ => ?_))
   | exact ih0 _ _
   | exact ih1 _ _ _
   | exact ih2 _ _ _ _ _
   | exact ih3 _ _ _ _
   | exact orielref25_Quote.mono _ _
   | exact orielref26_hex.mono _ _
   | exact LeO.none _
   | refine LeO.ite ?_ ?_
   | refine LeO.bind ?_ (fun _ => ?_)
def orielref26_Unquote.T19 : Bool × List (List Nat × List Nat) := (true, [([], []), ([], []), ([], []), ([2], [2]), ([1, 3], [1, 3]), ([4], [4]), ([5], [5]), ([], []), ([], []), ([8], [8]), ([7, 9], [7, 9]), ([10, 5], [10]), ([6, 11], [6, 11]), ([12], [12]), ([13], [13]), ([14], [14]), ([0, 15], [0, 15]), ([16, 11, 0, 1, 2, 3, 4, 5, 6, 7, 8, 9, 10, 11, 12, 13, 14, 15, 16], [0, 16])])
def orielref26_Unquote.B19 : List Nat := [0, 0, 0, 4, 14, 30, 62, 0, 0, 256, 896, 1982, 4094, 8190, 16382, 32766, 65535, 131071]
theorem orielref26_Unquote.tab19 : rtab .any (opsOf Tryd.f47 19) = orielref26_Unquote.T19 := by kernel_rfl
theorem orielref26_Unquote.bits19 : waitsOk orielref26_Unquote.T19.2 orielref26_Unquote.B19 = true := by kernel_rfl
set_option maxHeartbeats 8000000 in
set_option maxRecDepth 100000 in
theorem orielref26_Unquote.calls (k : Nat) (a0 : ByteArray) (r1 : ByteArray) (r2 : Bool) (w : World) (h : orielref26_Unquote.f k a0 = some (r1, r2)) :
  Calls Tryd.prog 47 #[.string a0] w fun e w' => e = .returned (.tuple #[.string r1, .bool r2]) ∧ Below w.heap.size w w' := by
 have HB := Aside0.mk (Below.refl w.heap.size w)
 have H : (if (a0.size : Int) < 2 then (orielref26_Unquote.j0 k a0 true) else (if 0 < (a0.size : Int) then (if (bt a0 0) = 34 then (if 0 ≤ (wrap64 ((a0.size : Int) - 1)) then (if (wrap64 ((a0.size : Int) - 1)) < (a0.size : Int) then (orielref26_Unquote.j0 k a0 ((bt a0 (wrap64 ((a0.size : Int) - 1))) != 34)) else (none)) else (none)) else (orielref26_Unquote.j0 k a0 true)) else (none))) = some (r1, r2) := h
 clear h
 have HC2 := Aside0.mk H
 clear H
 go_enter Tryd.func47, Tryd.ntmps47
 go_upto_region 1 with (fail)
 go_cut [22] (fun v22 wc => ∃ (kq : Nat) (x22_1 : Bool), v22 = .bool x22_1 ∧ Aside0 (orielref26_Unquote.j0 kq a0 x22_1 = some (r1, r2)) ∧ Aside0 (kq ≤ k) ∧ Aside0 (Below w.heap.size w wc))
 case first =>
  have H := HC2.out
  clear HC2
  by_cases c3 : (a0.size : Int) < 2
  ·rw [if_pos c3] at H
   have c3b0 : decide ((a0.size : Int) < 2) = true := decide_eq_true c3
   have c3b1 : decide (a0.size < 2) = true := decide_eq_true (by omega)
   clear c3
   (first | rw [c3b0] | (simp only [i64_w, i32_w]; rw [c3b0]) | skip)
   have H' := Aside0.mk H
   clear H
   go_wp2
   go_meet
   case rel => exact ⟨_, (true), (by first | rfl | (simp; done) | (simp [*]; done)), H', ⟨by first | omega | exact Nat.le_refl _⟩, ⟨by exact HB.out⟩⟩
  ·rw [if_neg c3] at H
   have c3b0 : decide ((a0.size : Int) < 2) = false := decide_eq_false c3
   have c3b1 : decide (a0.size < 2) = false := decide_eq_false (by omega)
   clear c3
   (first | rw [c3b0] | (simp only [i64_w, i32_w]; rw [c3b0]) | skip)
   by_cases c4 : 0 < (a0.size : Int)
   ·rw [if_pos c4] at H
    have c4b0 : decide (0 < (a0.size : Int)) = true := decide_eq_true c4
    have c4b1 : decide (0 < a0.size) = true := decide_eq_true (by omega)
    clear c4
    by_cases c6 : (bt a0 0) = 34
    ·rw [if_pos c6] at H
     have c6b0 : ((bt a0 0) == 34) = true := beq_iff_eq.mpr c6
     have c6b1 : ((bt a0 0) != 34) = false := bne_eq_false_iff_eq.mpr c6
     clear c6
     obtain ⟨ji7, hji7⟩ : ∃ j_ : Int, (wrap64 ((a0.size : Int) - 1)) = j_ := ⟨_, rfl⟩
     replace H : (if 0 ≤ (ji7) then (if (ji7) < (a0.size : Int) then (orielref26_Unquote.j0 k a0 ((bt a0 (ji7)) != 34)) else (none)) else (none)) = some (r1, r2) := by first | (rw [hji7] at H; exact H) | (simp only [hji7] at H ⊢; exact H)
     have hji7w : (IntKind.i64.wrap ((a0.size : Int) - 1)) = ji7 := (i64_w _).trans hji7
     by_cases c8 : 0 ≤ (ji7)
     ·rw [if_pos c8] at H
      have c8b0 : decide (0 ≤ (ji7)) = true := decide_eq_true c8
      clear c8
      by_cases c9 : (ji7) < (a0.size : Int)
      ·rw [if_pos c9] at H
       have c9b0 : decide ((ji7) < (a0.size : Int)) = true := decide_eq_true c9
       clear c9
       have H' := Aside0.mk H
       clear H
       have p5 : 0 ≤ (0 : Int) := (by omega)
       have q5 : 0 < a0.size := (by have : (0 : Int) < (a0.size : Int) := of_decide_eq_true (by first | (with_reducible assumption) | assumption); omega)
       have hx5 : ∀ h : 0 < a0.size, ((a0[0]'h).toNat : Int) = bt a0 0 := bt_at a0 0
       clear p5
       have qi5 : (0 < (a0.size : Int)) = True := eq_true (of_decide_eq_true (by first | (with_reducible assumption) | assumption))
       replace q5 := eq_true q5
       have p10 : 0 ≤ ((ji7) : Int) := of_decide_eq_true (by first | (with_reducible assumption) | assumption)
       have q10 : (ji7) < (a0.size : Int) := of_decide_eq_true (by first | (with_reducible assumption) | assumption)
       have hx10 := bt_at a0 (ji7)
       replace p10 := eq_true p10
       replace q10 := eq_true q10
       go_wp2
       go_meet
       case rel => exact ⟨_, (((bt a0 (ji7)) != 34)), (by first | rfl | (simp; done) | (simp only [← hji7] <;> (first | rfl | simp)) | (simp [*]; done)), H', ⟨by first | omega | exact Nat.le_refl _⟩, ⟨by exact HB.out⟩⟩
      ·rw [if_neg c9] at H
       exact absurd H (by simp)
     ·rw [if_neg c8] at H
      exact absurd H (by simp)
    ·rw [if_neg c6] at H
     have c6b0 : ((bt a0 0) == 34) = false := beq_eq_false_iff_ne.mpr c6
     have c6b1 : ((bt a0 0) != 34) = true := bne_iff_ne.mpr c6
     have H' := Aside0.mk H
     clear H
     have p5 : 0 ≤ (0 : Int) := (by omega)
     have q5 : 0 < a0.size := (by have : (0 : Int) < (a0.size : Int) := of_decide_eq_true (by first | (with_reducible assumption) | assumption); omega)
     have hx5 : ∀ h : 0 < a0.size, ((a0[0]'h).toNat : Int) = bt a0 0 := bt_at a0 0
     clear p5
     have qi5 : (0 < (a0.size : Int)) = True := eq_true (of_decide_eq_true (by first | (with_reducible assumption) | assumption))
     replace q5 := eq_true q5
     go_wp2
     go_meet
     case rel => exact ⟨_, (true), (by first | rfl | (simp; done) | (simp [*]; done)), H', ⟨by first | omega | exact Nat.le_refl _⟩, ⟨by exact HB.out⟩⟩
   ·rw [if_neg c4] at H
    exact absurd H (by simp)
 case rest =>
  clear HC2
  obtain ⟨kq, x22_1, rfl, HA, HJ1, HB⟩ := hcut
  cases kq with
  | zero => exact absurd HA.out (by simp [orielref26_Unquote.j0])
  | succ kj1 =>
   have H := HA.out
   clear HA
   simp only [orielref26_Unquote.j0] at H
   by_cases c11 : x22_1 = true
   ·subst c11
    have H1 : (some ((⟨#[]⟩ : ByteArray), false)) = some (r1, r2) := by rw [if_pos rfl] at H; exact H
    clear H
    have H := H1
    clear H1
    simp only [Option.some.injEq, Prod.mk.injEq] at H
    obtain ⟨rfl, rfl⟩ := H
    go_wp2
    go_ret2
    exact ⟨by first | rfl | (simp [errW_none, errW_some] <;> rfl) | (simp [*, errW_none, errW_some] <;> rfl), by exact HB.out⟩
   ·replace c11 := Bool.eq_false_iff.mpr c11
    subst c11
    have H1 : (orielref26_Unquote.l0 kj1 a0 (⟨#[]⟩ : ByteArray) 1) = some (r1, r2) := by rw [if_neg (show ¬ (false = true) by decide)] at H; exact H
    clear H
    have H := H1
    clear H1
    have H' := Aside0.mk H
    clear H
    go_wp2
    go_loopg [4, 5] kj1 (fun kq v4 v5 w' => ∃ (x4_2 : ByteArray) (x5_2 : Int), v4 = .string x4_2 ∧ v5 = .int .i64 x5_2 ∧ Aside0 (orielref26_Unquote.l0 kq a0 x4_2 x5_2 = some (r1, r2)) ∧ Aside0 (kq ≤ kj1) ∧ Aside0 (Below w.heap.size w w'))
    case atStart => exact ⟨((⟨#[]⟩ : ByteArray)), (1), (by first | rfl | (simp; done) | (simp [*]; done)), (by first | rfl | (simp; done) | (simp [*]; done)), H', ⟨Nat.le_refl _⟩, ⟨by exact HB.out⟩⟩
    case round =>
     clear H'
     obtain ⟨x4_2, x5_2, rfl, rfl, HA, HK2, HB⟩ := hrel
     cases gk with
     | zero => exact absurd HA.out (by simp [orielref26_Unquote.l0])
     | succ k2 =>
      have H := HA.out
      clear HA
      simp only [orielref26_Unquote.l0] at H
      by_cases c12 : x5_2 < (wrap64 ((a0.size : Int) - 1))
      ·rw [if_pos c12] at H
       have c12b0 : decide (x5_2 < (wrap64 ((a0.size : Int) - 1))) = true := decide_eq_true c12
       clear c12
       by_cases c13 : 0 ≤ x5_2
       ·rw [if_pos c13] at H
        have c13b0 : decide (0 ≤ x5_2) = true := decide_eq_true c13
        clear c13
        by_cases c14 : x5_2 < (a0.size : Int)
        ·rw [if_pos c14] at H
         have c14b0 : decide (x5_2 < (a0.size : Int)) = true := decide_eq_true c14
         clear c14
         by_cases c16 : (bt a0 x5_2) = 92
         ·rw [if_pos c16] at H
          have c16b0 : ((bt a0 x5_2) == 92) = true := beq_iff_eq.mpr c16
          have c16b1 : ((bt a0 x5_2) != 92) = false := bne_eq_false_iff_eq.mpr c16
          clear c16
          by_cases c17 : (wrap64 (x5_2 + 1)) ≥ (wrap64 ((a0.size : Int) - 1))
          ·rw [if_pos c17] at H
           have c17b0 : decide ((wrap64 ((a0.size : Int) - 1)) ≤ (wrap64 (x5_2 + 1))) = true := decide_eq_true c17
           clear c17
           simp only [Option.some.injEq, Prod.mk.injEq] at H
           obtain ⟨rfl, rfl⟩ := H
           have p15 : 0 ≤ (x5_2 : Int) := of_decide_eq_true (by first | (with_reducible assumption) | assumption)
           have q15 : x5_2 < (a0.size : Int) := of_decide_eq_true (by first | (with_reducible assumption) | assumption)
           have hx15 := bt_at a0 x5_2
           replace p15 := eq_true p15
           replace q15 := eq_true q15
           go_wp2
           go_ret2
           exact ⟨by first | rfl | (simp [errW_none, errW_some] <;> rfl) | (simp [*, errW_none, errW_some] <;> rfl), by exact HB.out⟩
          ·rw [if_neg c17] at H
           have c17b0 : decide ((wrap64 ((a0.size : Int) - 1)) ≤ (wrap64 (x5_2 + 1))) = false := decide_eq_false c17
           clear c17
           obtain ⟨ji18, hji18⟩ : ∃ j_ : Int, (wrap64 (x5_2 + 1)) = j_ := ⟨_, rfl⟩
           replace H : (if 0 ≤ (ji18) then (if (ji18) < (a0.size : Int) then (if (bt a0 (ji18)) = 110 then ((some (([10] : List Int) : List Int)).bind fun y206 => (if x4_2.size + (strOfNums y206).size ≤ 9223372036854775807 then (orielref26_Unquote.l0 k2 a0 (x4_2 ++ (strOfNums y206)) (wrap64 ((ji18) + 1))) else (none))) else (if (bt a0 (ji18)) = 34 then (orielref26_Unquote.j2 k2 a0 x4_2 ji18 (bt a0 (ji18)) true) else (orielref26_Unquote.j2 k2 a0 x4_2 ji18 (bt a0 (ji18)) ((bt a0 (ji18)) == 92)))) else (none)) else (none)) = some (r1, r2) := by first | (rw [hji18] at H; exact H) | (simp only [hji18] at H ⊢; exact H)
           (try rw [hji18] at c17b0)
           have hji18w : (IntKind.i64.wrap (x5_2 + 1)) = ji18 := (i64_w _).trans hji18
           by_cases c19 : 0 ≤ (ji18)
           ·rw [if_pos c19] at H
            have c19b0 : decide (0 ≤ (ji18)) = true := decide_eq_true c19
            clear c19
            by_cases c20 : (ji18) < (a0.size : Int)
            ·rw [if_pos c20] at H
             have c20b0 : decide ((ji18) < (a0.size : Int)) = true := decide_eq_true c20
             clear c20
             by_cases c22 : (bt a0 (ji18)) = 110
             ·rw [if_pos c22] at H
              have c22b0 : ((bt a0 (ji18)) == 110) = true := beq_iff_eq.mpr c22
              have c22b1 : ((bt a0 (ji18)) != 110) = false := bne_eq_false_iff_eq.mpr c22
              clear c22
              obtain ⟨y206, hy206⟩ : ∃ y_ : List Int, y_ = (([10] : List Int)) := ⟨_, rfl⟩
              replace H : (if x4_2.size + (strOfNums y206).size ≤ 9223372036854775807 then (orielref26_Unquote.l0 k2 a0 (x4_2 ++ (strOfNums y206)) (wrap64 ((ji18) + 1))) else (none)) = some (r1, r2) := by first | (rw [hy206]; with_reducible exact H) | (have H2_ := (Option.bind_some _ _).symm.trans H; rw [hy206]; with_reducible exact H2_) | (have H2_ := (Option.bind_some _ _).symm.trans H; with_reducible exact H2_) | with_reducible exact H | (rw [hy206]; exact H) | exact H
              have Ny206 := Aside0.mk hy206
              clear hy206
              by_cases c23 : x4_2.size + (strOfNums y206).size ≤ 9223372036854775807
              ·rw [if_pos c23] at H
               have c23b0 := eq_true c23
               have c23b1 : decide (x4_2.size + (strOfNums y206).size ≤ 9223372036854775807) = true := decide_eq_true c23
               try have c23b2 : (9223372036854775807 < x4_2.size + (strOfNums y206).size) = False := eq_false (Nat.not_lt.2 c23)
               have H' := Aside0.mk H
               clear H
               have p15 : 0 ≤ (x5_2 : Int) := of_decide_eq_true (by first | (with_reducible assumption) | assumption)
               have q15 : x5_2 < (a0.size : Int) := of_decide_eq_true (by first | (with_reducible assumption) | assumption)
               have hx15 := bt_at a0 x5_2
               replace p15 := eq_true p15
               replace q15 := eq_true q15
               have p21 : 0 ≤ ((ji18) : Int) := of_decide_eq_true (by first | (with_reducible assumption) | assumption)
               have q21 : (ji18) < (a0.size : Int) := of_decide_eq_true (by first | (with_reducible assumption) | assumption)
               have hx21 := bt_at a0 (ji18)
               replace p21 := eq_true p21
               replace q21 := eq_true q21
               go_wp2_with (first | ((with_reducible refine gate_dst (N := 55) rfl ?_); (try (refine gate_guard (by rfl) ?_; dsimp only)); refine Kd.R_lit (Kd.int .u8) _ 5 ?hg (N := 55) ?hd (xs := ([10] : List Int)) (inner := [.int .u8 10]) (ok := fun _ => True) (okp := fun _ => True) ?hr ?hp (fun _ hk => hk) trivial (Below.refl _ _) (Nat.le_refl _) (by simp) ?_; (case hd => rfl); (case hg => rfl); (case hr => first | (go_simp; done) | (go_simp; rfl)); (case hp => exact (Reps.one (show Kd.M (Kd.int .u8) _ _ _ 10 [.int .u8 10] from rfl) (Reps.none _ _))); intro v207 w24 ho25 hb hg_ hnew_; clear hg_ hnew_; (first | rw [← Ny206.out] at ho25 | (simp only [Int.reduceToNat] at ho25; rw [← Ny206.out] at ho25)); have n0_ := Aside0.mk (Kd.R_lower ho25 (below_size (by repeat (first | (with_reducible first | exact HB.out | apply below_alloc | apply pw_below_drewN | apply below_drew1) | exact HB.out)))); have n1_ := Aside0.mk (below_step (by repeat (first | (with_reducible first | exact HB.out | apply below_alloc | apply pw_below_drewN | apply below_drew1) | exact HB.out)) hb); clear HB; have HO208 := n0_; have HB := n1_; clear n0_ n1_; clear hb ho25; have hcv26 := own_string (P := Tryd.prog) Tryd.underlying77 Tryd.underlying5 Tryd.underlying9 (Kd.own_of_R HO208.out); have hcv26m := fun m_ => own_string (P := Tryd.prog) Tryd.underlying77 Tryd.underlying5 Tryd.underlying9 (Kd.own_of_R (Kd.R_drewN HO208.out m_))))
               go_roundg k2
               case measure => have := HJ1.out; have := HK2.out; omega
               case rel => exact ⟨(x4_2 ++ (strOfNums y206)), (wrap64 ((ji18) + 1)), (by first | rfl | (simp; done) | (simp [*]; done)), (by first | rfl | (simp; done) | (simp only [← hji18] <;> (first | rfl | simp)) | (simp [*]; done)), H', ⟨by have := HJ1.out; have := HK2.out; omega⟩, ⟨by exact HB.out⟩⟩
              ·rw [if_neg c23] at H
               exact absurd H (by simp)
             ·rw [if_neg c22] at H
              have c22b0 : ((bt a0 (ji18)) == 110) = false := beq_eq_false_iff_ne.mpr c22
              have c22b1 : ((bt a0 (ji18)) != 110) = true := bne_iff_ne.mpr c22
              have HC27 := Aside0.mk H
              clear H
              have p15 : 0 ≤ (x5_2 : Int) := of_decide_eq_true (by first | (with_reducible assumption) | assumption)
              have q15 : x5_2 < (a0.size : Int) := of_decide_eq_true (by first | (with_reducible assumption) | assumption)
              have hx15 := bt_at a0 x5_2
              replace p15 := eq_true p15
              replace q15 := eq_true q15
              have p21 : 0 ≤ ((ji18) : Int) := of_decide_eq_true (by first | (with_reducible assumption) | assumption)
              have q21 : (ji18) < (a0.size : Int) := of_decide_eq_true (by first | (with_reducible assumption) | assumption)
              have hx21 := bt_at a0 (ji18)
              replace p21 := eq_true p21
              replace q21 := eq_true q21
              go_upto_region 16 with (fail)
              go_cut [63] (fun v63 wc => ∃ (kq : Nat) (x63_26 : Bool), v63 = .bool x63_26 ∧ Aside0 (orielref26_Unquote.j2 kq a0 x4_2 ji18 (bt a0 (ji18)) x63_26 = some (r1, r2)) ∧ Aside0 (kq ≤ k2) ∧ Aside0 (Below w.heap.size w wc))
              case first =>
               have H := HC27.out
               clear HC27
               by_cases c28 : (bt a0 (ji18)) = 34
               ·rw [if_pos c28] at H
                have c28b0 : ((bt a0 (ji18)) == 34) = true := beq_iff_eq.mpr c28
                have c28b1 : ((bt a0 (ji18)) != 34) = false := bne_eq_false_iff_eq.mpr c28
                clear c28
                (first | rw [c28b0] | (simp only [i64_w, i32_w]; rw [c28b0]) | skip)
                have H' := Aside0.mk H
                clear H
                go_wp2
                go_meet
                case rel => exact ⟨_, (true), (by first | rfl | (simp; done) | (simp [*]; done)), H', ⟨by have := HJ1.out; have := HK2.out; first | omega | exact Nat.le_refl _⟩, ⟨by exact HB.out⟩⟩
               ·rw [if_neg c28] at H
                have c28b0 : ((bt a0 (ji18)) == 34) = false := beq_eq_false_iff_ne.mpr c28
                have c28b1 : ((bt a0 (ji18)) != 34) = true := bne_iff_ne.mpr c28
                (first | rw [c28b0] | (simp only [i64_w, i32_w]; rw [c28b0]) | skip)
                have H' := Aside0.mk H
                clear H
                go_wp2
                go_meet
                case rel => exact ⟨_, (((bt a0 (ji18)) == 92)), (by first | rfl | (simp; done) | (simp only [← hji18] <;> (first | rfl | simp)) | (simp [*]; done)), H', ⟨by have := HJ1.out; have := HK2.out; first | omega | exact Nat.le_refl _⟩, ⟨by exact HB.out⟩⟩
              case rest =>
               clear HC27
               obtain ⟨kq, x63_26, rfl, HA, HJ26, HB⟩ := hcut
               cases kq with
               | zero => exact absurd HA.out (by simp [orielref26_Unquote.j2])
               | succ kj26 =>
                have H := HA.out
                clear HA
                simp only [orielref26_Unquote.j2] at H
                by_cases c29 : x63_26 = true
                ·subst c29
                 have H1 : (if 0 ≤ ji18 then (if ji18 ≤ (wrap64 (ji18 + 1)) then (if (wrap64 (ji18 + 1)) ≤ (a0.size : Int) then (if x4_2.size + (a0.extract (ji18 : Int).toNat ((wrap64 (ji18 + 1)) : Int).toNat).size ≤ 9223372036854775807 then (orielref26_Unquote.l0 kj26 a0 (x4_2 ++ (a0.extract (ji18 : Int).toNat ((wrap64 (ji18 + 1)) : Int).toNat)) (wrap64 (ji18 + 1))) else (none)) else (none)) else (none)) else (none)) = some (r1, r2) := by rw [if_pos rfl] at H; exact H
                 clear H
                 have H := H1
                 clear H1
                 by_cases c30 : 0 ≤ ji18
                 ·rw [if_pos c30] at H
                  have c30b0 := eq_true c30
                  have c30b1 : decide (0 ≤ ji18) = true := decide_eq_true c30
                  clear c30
                  by_cases c31 : ji18 ≤ (wrap64 (ji18 + 1))
                  ·rw [if_pos c31] at H
                   have c31b0 := eq_true c31
                   have c31b1 : decide (ji18 ≤ (wrap64 (ji18 + 1))) = true := decide_eq_true c31
                   by_cases c32 : (wrap64 (ji18 + 1)) ≤ (a0.size : Int)
                   ·rw [if_pos c32] at H
                    have c32b0 := eq_true c32
                    have c32b1 : decide ((wrap64 (ji18 + 1)) ≤ (a0.size : Int)) = true := decide_eq_true c32
                    by_cases c33 : x4_2.size + (a0.extract (ji18 : Int).toNat ((wrap64 (ji18 + 1)) : Int).toNat).size ≤ 9223372036854775807
                    ·rw [if_pos c33] at H
                     have c33b0 := eq_true c33
                     have c33b1 : decide (x4_2.size + (a0.extract (ji18 : Int).toNat ((wrap64 (ji18 + 1)) : Int).toNat).size ≤ 9223372036854775807) = true := decide_eq_true c33
                     try have c33b2 : (9223372036854775807 < x4_2.size + (a0.extract (ji18 : Int).toNat ((wrap64 (ji18 + 1)) : Int).toNat).size) = False := eq_false (Nat.not_lt.2 c33)
                     have H' := Aside0.mk H
                     clear H
                     go_wp2
                     go_roundg kj26
                     case measure => have := HJ1.out; have := HK2.out; have := HJ26.out; omega
                     case rel => exact ⟨(x4_2 ++ (a0.extract (ji18 : Int).toNat ((wrap64 (ji18 + 1)) : Int).toNat)), (wrap64 (ji18 + 1)), (by first | rfl | (simp; done) | (simp only [← hji18] <;> (first | rfl | simp)) | (simp [*]; done)), (by first | rfl | (simp; done) | (simp only [← hji18] <;> (first | rfl | simp)) | (simp [*]; done)), H', ⟨by have := HJ1.out; have := HK2.out; have := HJ26.out; omega⟩, ⟨by exact HB.out⟩⟩
                    ·rw [if_neg c33] at H
                     exact absurd H (by simp)
                   ·rw [if_neg c32] at H
                    exact absurd H (by simp)
                  ·rw [if_neg c31] at H
                   exact absurd H (by simp)
                 ·rw [if_neg c30] at H
                  exact absurd H (by simp)
                ·replace c29 := Bool.eq_false_iff.mpr c29
                 subst c29
                 have H1 : (if (bt a0 (ji18)) = 120 then (if (wrap64 (ji18 + 2)) < (wrap64 ((a0.size : Int) - 1)) then (if 0 ≤ (wrap64 (ji18 + 1)) then (if (wrap64 (ji18 + 1)) < (a0.size : Int) then ((orielref26_hex.f kj26 (bt a0 (wrap64 (ji18 + 1)))).bind fun t209 => (if t209 ≥ 0 then (if 0 ≤ (wrap64 (ji18 + 2)) then (if (wrap64 (ji18 + 2)) < (a0.size : Int) then ((orielref26_hex.f kj26 (bt a0 (wrap64 (ji18 + 2)))).bind fun t210 => (orielref26_Unquote.j3 kj26 a0 x4_2 ji18 (decide (t210 ≥ 0)))) else (none)) else (none)) else (orielref26_Unquote.j3 kj26 a0 x4_2 ji18 false))) else (none)) else (none)) else (orielref26_Unquote.j3 kj26 a0 x4_2 ji18 false)) else (orielref26_Unquote.j3 kj26 a0 x4_2 ji18 false)) = some (r1, r2) := by rw [if_neg (show ¬ (false = true) by decide)] at H; exact H
                 clear H
                 have H := H1
                 clear H1
                 have HC34 := Aside0.mk H
                 clear H
                 go_upto_region 18 with (fail)
                 go_cut [96] (fun v96 wc => ∃ (kq : Nat) (x96_33 : Bool), v96 = .bool x96_33 ∧ Aside0 (orielref26_Unquote.j3 kq a0 x4_2 ji18 x96_33 = some (r1, r2)) ∧ Aside0 (kq ≤ kj26) ∧ Aside0 (Below w.heap.size w wc))
                 case first =>
                  have H := HC34.out
                  clear HC34
                  by_cases c35 : (bt a0 (ji18)) = 120
                  ·rw [if_pos c35] at H
                   have c35b0 : ((bt a0 (ji18)) == 120) = true := beq_iff_eq.mpr c35
                   have c35b1 : ((bt a0 (ji18)) != 120) = false := bne_eq_false_iff_eq.mpr c35
                   clear c35
                   (first | rw [c35b0] | (simp only [i64_w, i32_w]; rw [c35b0]) | skip)
                   by_cases c36 : (wrap64 (ji18 + 2)) < (wrap64 ((a0.size : Int) - 1))
                   ·rw [if_pos c36] at H
                    have c36b0 : decide ((wrap64 (ji18 + 2)) < (wrap64 ((a0.size : Int) - 1))) = true := decide_eq_true c36
                    clear c36
                    obtain ⟨ji37, hji37⟩ : ∃ j_ : Int, (wrap64 (ji18 + 1)) = j_ := ⟨_, rfl⟩
                    replace H : (if 0 ≤ (ji37) then (if (ji37) < (a0.size : Int) then ((orielref26_hex.f kj26 (bt a0 (ji37))).bind fun t209 => (if t209 ≥ 0 then (if 0 ≤ (wrap64 (ji18 + 2)) then (if (wrap64 (ji18 + 2)) < (a0.size : Int) then ((orielref26_hex.f kj26 (bt a0 (wrap64 (ji18 + 2)))).bind fun t210 => (orielref26_Unquote.j3 kj26 a0 x4_2 ji18 (decide (t210 ≥ 0)))) else (none)) else (none)) else (orielref26_Unquote.j3 kj26 a0 x4_2 ji18 false))) else (none)) else (none)) = some (r1, r2) := by first | (rw [hji37] at H; exact H) | (simp only [hji37] at H ⊢; exact H)
                    have hji37w : (IntKind.i64.wrap (ji18 + 1)) = ji37 := (i64_w _).trans hji37
                    by_cases c38 : 0 ≤ (ji37)
                    ·rw [if_pos c38] at H
                     have c38b0 : decide (0 ≤ (ji37)) = true := decide_eq_true c38
                     clear c38
                     by_cases c39 : (ji37) < (a0.size : Int)
                     ·rw [if_pos c39] at H
                      have c39b0 : decide ((ji37) < (a0.size : Int)) = true := decide_eq_true c39
                      clear c39
                      replace H := Option.bind_eq_some_iff.mp H
                      obtain ⟨t209, A410, H⟩ := H
                      replace H : (if t209 ≥ 0 then (if 0 ≤ (wrap64 (ji18 + 2)) then (if (wrap64 (ji18 + 2)) < (a0.size : Int) then ((orielref26_hex.f kj26 (bt a0 (wrap64 (ji18 + 2)))).bind fun t210 => (orielref26_Unquote.j3 kj26 a0 x4_2 ji18 (decide (t210 ≥ 0)))) else (none)) else (none)) else (orielref26_Unquote.j3 kj26 a0 x4_2 ji18 false)) = some (r1, r2) := H
                      have A41 := Aside0.mk A410
                      clear A410
                      by_cases c42 : t209 ≥ 0
                      ·rw [if_pos c42] at H
                       have c42b0 : decide (0 ≤ t209) = true := decide_eq_true c42
                       clear c42
                       obtain ⟨ji43, hji43⟩ : ∃ j_ : Int, (wrap64 (ji18 + 2)) = j_ := ⟨_, rfl⟩
                       replace H : (if 0 ≤ (ji43) then (if (ji43) < (a0.size : Int) then ((orielref26_hex.f kj26 (bt a0 (ji43))).bind fun t210 => (orielref26_Unquote.j3 kj26 a0 x4_2 ji18 (decide (t210 ≥ 0)))) else (none)) else (none)) = some (r1, r2) := by first | (rw [hji43] at H; exact H) | (simp only [hji43] at H ⊢; exact H)
                       (try rw [hji43] at c36b0)
                       (try rw [hji43] at A41)
                       have hji43w : (IntKind.i64.wrap (ji18 + 2)) = ji43 := (i64_w _).trans hji43
                       by_cases c44 : 0 ≤ (ji43)
                       ·rw [if_pos c44] at H
                        have c44b0 : decide (0 ≤ (ji43)) = true := decide_eq_true c44
                        clear c44
                        by_cases c45 : (ji43) < (a0.size : Int)
                        ·rw [if_pos c45] at H
                         have c45b0 : decide ((ji43) < (a0.size : Int)) = true := decide_eq_true c45
                         clear c45
                         replace H := Option.bind_eq_some_iff.mp H
                         obtain ⟨t210, A470, H⟩ := H
                         replace H : (orielref26_Unquote.j3 kj26 a0 x4_2 ji18 (decide (t210 ≥ 0))) = some (r1, r2) := H
                         have A47 := Aside0.mk A470
                         clear A470
                         have H' := Aside0.mk H
                         clear H
                         have p40 : 0 ≤ ((ji37) : Int) := of_decide_eq_true (by first | (with_reducible assumption) | assumption)
                         have q40 : (ji37) < (a0.size : Int) := of_decide_eq_true (by first | (with_reducible assumption) | assumption)
                         have hx40 := bt_at a0 (ji37)
                         replace p40 := eq_true p40
                         replace q40 := eq_true q40
                         go_wp2_with (first | (go_at_call 61; (with_reducible refine (orielref26_hex.calls kj26 (bt a0 (ji37)) t209 _ A41.out).mono ?_); rintro e w' ⟨rfl, ⟨nd, rfl⟩⟩; have p46 : 0 ≤ ((ji43) : Int) := of_decide_eq_true (by first | (with_reducible assumption) | assumption); have q46 : (ji43) < (a0.size : Int) := of_decide_eq_true (by first | (with_reducible assumption) | assumption); have hx46 := bt_at a0 (ji43); replace p46 := eq_true p46; replace q46 := eq_true q46) | (go_at_call 61; (with_reducible refine (orielref26_hex.calls kj26 (bt a0 (ji43)) t210 _ A47.out).mono ?_); rintro e w' ⟨rfl, ⟨nd, rfl⟩⟩))
                         go_meet
                         case rel => exact ⟨_, (decide (t210 ≥ 0)), (by first | rfl | (simp; done) | (simp [*]; done)), H', ⟨by have := HJ1.out; have := HK2.out; have := HJ26.out; first | omega | exact Nat.le_refl _⟩, ⟨by repeat (first | (with_reducible first | exact HB.out | apply below_alloc | apply pw_below_drewN | apply below_drew1) | exact HB.out)⟩⟩
                        ·rw [if_neg c45] at H
                         exact absurd H (by simp)
                       ·rw [if_neg c44] at H
                        exact absurd H (by simp)
                      ·rw [if_neg c42] at H
                       have c42b0 : decide (0 ≤ t209) = false := decide_eq_false c42
                       clear c42
                       have H' := Aside0.mk H
                       clear H
                       have p40 : 0 ≤ ((ji37) : Int) := of_decide_eq_true (by first | (with_reducible assumption) | assumption)
                       have q40 : (ji37) < (a0.size : Int) := of_decide_eq_true (by first | (with_reducible assumption) | assumption)
                       have hx40 := bt_at a0 (ji37)
                       replace p40 := eq_true p40
                       replace q40 := eq_true q40
                       go_wp2_with (first | (go_at_call 61; (with_reducible refine (orielref26_hex.calls kj26 (bt a0 (ji37)) t209 _ A41.out).mono ?_); rintro e w' ⟨rfl, ⟨nd, rfl⟩⟩))
                       go_meet
                       case rel => exact ⟨_, (false), (by first | rfl | (simp; done) | (simp [*]; done)), H', ⟨by have := HJ1.out; have := HK2.out; have := HJ26.out; first | omega | exact Nat.le_refl _⟩, ⟨by repeat (first | (with_reducible first | exact HB.out | apply below_alloc | apply pw_below_drewN | apply below_drew1) | exact HB.out)⟩⟩
                     ·rw [if_neg c39] at H
                      exact absurd H (by simp)
                    ·rw [if_neg c38] at H
                     exact absurd H (by simp)
                   ·rw [if_neg c36] at H
                    have c36b0 : decide ((wrap64 (ji18 + 2)) < (wrap64 ((a0.size : Int) - 1))) = false := decide_eq_false c36
                    clear c36
                    have H' := Aside0.mk H
                    clear H
                    go_wp2
                    go_meet
                    case rel => exact ⟨_, (false), (by first | rfl | (simp; done) | (simp [*]; done)), H', ⟨by have := HJ1.out; have := HK2.out; have := HJ26.out; first | omega | exact Nat.le_refl _⟩, ⟨by exact HB.out⟩⟩
                  ·rw [if_neg c35] at H
                   have c35b0 : ((bt a0 (ji18)) == 120) = false := beq_eq_false_iff_ne.mpr c35
                   have c35b1 : ((bt a0 (ji18)) != 120) = true := bne_iff_ne.mpr c35
                   (first | rw [c35b0] | (simp only [i64_w, i32_w]; rw [c35b0]) | skip)
                   have H' := Aside0.mk H
                   clear H
                   go_wp2
                   go_meet
                   case rel => exact ⟨_, (false), (by first | rfl | (simp; done) | (simp [*]; done)), H', ⟨by have := HJ1.out; have := HK2.out; have := HJ26.out; first | omega | exact Nat.le_refl _⟩, ⟨by exact HB.out⟩⟩
                 case rest =>
                  clear HC34
                  obtain ⟨kq, x96_33, rfl, HA, HJ33, HB⟩ := hcut
                  cases kq with
                  | zero => exact absurd HA.out (by simp [orielref26_Unquote.j3])
                  | succ kj33 =>
                   have H := HA.out
                   clear HA
                   simp only [orielref26_Unquote.j3] at H
                   by_cases c48 : x96_33 = true
                   ·subst c48
                    have H1 : (if 0 ≤ (wrap64 (ji18 + 1)) then (if (wrap64 (ji18 + 1)) < (a0.size : Int) then ((orielref26_hex.f kj33 (bt a0 (wrap64 (ji18 + 1)))).bind fun t211 => (if 0 ≤ (wrap64 (ji18 + 2)) then (if (wrap64 (ji18 + 2)) < (a0.size : Int) then ((orielref26_hex.f kj33 (bt a0 (wrap64 (ji18 + 2)))).bind fun t212 => ((some (([(wrap64 ((wrap64 (16 * t211)) + t212)) % 256] : List Int) : List Int)).bind fun y213 => (if x4_2.size + (strOfNums y213).size ≤ 9223372036854775807 then (orielref26_Unquote.l0 kj33 a0 (x4_2 ++ (strOfNums y213)) (wrap64 ((wrap64 (ji18 + 2)) + 1))) else (none)))) else (none)) else (none))) else (none)) else (none)) = some (r1, r2) := by rw [if_pos rfl] at H; exact H
                    clear H
                    have H := H1
                    clear H1
                    obtain ⟨ji49, hji49⟩ : ∃ j_ : Int, (wrap64 (ji18 + 1)) = j_ := ⟨_, rfl⟩
                    replace H : (if 0 ≤ (ji49) then (if (ji49) < (a0.size : Int) then ((orielref26_hex.f kj33 (bt a0 (ji49))).bind fun t211 => (if 0 ≤ (wrap64 (ji18 + 2)) then (if (wrap64 (ji18 + 2)) < (a0.size : Int) then ((orielref26_hex.f kj33 (bt a0 (wrap64 (ji18 + 2)))).bind fun t212 => ((some (([(wrap64 ((wrap64 (16 * t211)) + t212)) % 256] : List Int) : List Int)).bind fun y213 => (if x4_2.size + (strOfNums y213).size ≤ 9223372036854775807 then (orielref26_Unquote.l0 kj33 a0 (x4_2 ++ (strOfNums y213)) (wrap64 ((wrap64 (ji18 + 2)) + 1))) else (none)))) else (none)) else (none))) else (none)) else (none)) = some (r1, r2) := by first | (rw [hji49] at H; exact H) | (simp only [hji49] at H ⊢; exact H)
                    have hji49w : (IntKind.i64.wrap (ji18 + 1)) = ji49 := (i64_w _).trans hji49
                    by_cases c50 : 0 ≤ (ji49)
                    ·rw [if_pos c50] at H
                     have c50b0 : decide (0 ≤ (ji49)) = true := decide_eq_true c50
                     clear c50
                     by_cases c51 : (ji49) < (a0.size : Int)
                     ·rw [if_pos c51] at H
                      have c51b0 : decide ((ji49) < (a0.size : Int)) = true := decide_eq_true c51
                      clear c51
                      replace H := Option.bind_eq_some_iff.mp H
                      obtain ⟨t211, A530, H⟩ := H
                      replace H : (if 0 ≤ (wrap64 (ji18 + 2)) then (if (wrap64 (ji18 + 2)) < (a0.size : Int) then ((orielref26_hex.f kj33 (bt a0 (wrap64 (ji18 + 2)))).bind fun t212 => ((some (([(wrap64 ((wrap64 (16 * t211)) + t212)) % 256] : List Int) : List Int)).bind fun y213 => (if x4_2.size + (strOfNums y213).size ≤ 9223372036854775807 then (orielref26_Unquote.l0 kj33 a0 (x4_2 ++ (strOfNums y213)) (wrap64 ((wrap64 (ji18 + 2)) + 1))) else (none)))) else (none)) else (none)) = some (r1, r2) := H
                      have A53 := Aside0.mk A530
                      clear A530
                      obtain ⟨ji54, hji54⟩ : ∃ j_ : Int, (wrap64 (ji18 + 2)) = j_ := ⟨_, rfl⟩
                      replace H : (if 0 ≤ (ji54) then (if (ji54) < (a0.size : Int) then ((orielref26_hex.f kj33 (bt a0 (ji54))).bind fun t212 => ((some (([(wrap64 ((wrap64 (16 * t211)) + t212)) % 256] : List Int) : List Int)).bind fun y213 => (if x4_2.size + (strOfNums y213).size ≤ 9223372036854775807 then (orielref26_Unquote.l0 kj33 a0 (x4_2 ++ (strOfNums y213)) (wrap64 ((ji54) + 1))) else (none)))) else (none)) else (none)) = some (r1, r2) := by first | (rw [hji54] at H; exact H) | (simp only [hji54] at H ⊢; exact H)
                      (try rw [hji54] at A53)
                      have hji54w : (IntKind.i64.wrap (ji18 + 2)) = ji54 := (i64_w _).trans hji54
                      by_cases c55 : 0 ≤ (ji54)
                      ·rw [if_pos c55] at H
                       have c55b0 : decide (0 ≤ (ji54)) = true := decide_eq_true c55
                       clear c55
                       by_cases c56 : (ji54) < (a0.size : Int)
                       ·rw [if_pos c56] at H
                        have c56b0 : decide ((ji54) < (a0.size : Int)) = true := decide_eq_true c56
                        clear c56
                        replace H := Option.bind_eq_some_iff.mp H
                        obtain ⟨t212, A580, H⟩ := H
                        replace H : ((some (([(wrap64 ((wrap64 (16 * t211)) + t212)) % 256] : List Int) : List Int)).bind fun y213 => (if x4_2.size + (strOfNums y213).size ≤ 9223372036854775807 then (orielref26_Unquote.l0 kj33 a0 (x4_2 ++ (strOfNums y213)) (wrap64 ((ji54) + 1))) else (none))) = some (r1, r2) := H
                        have A58 := Aside0.mk A580
                        clear A580
                        obtain ⟨y213, hy213⟩ : ∃ y_ : List Int, y_ = (([(wrap64 ((wrap64 (16 * t211)) + t212)) % 256] : List Int)) := ⟨_, rfl⟩
                        replace H : (if x4_2.size + (strOfNums y213).size ≤ 9223372036854775807 then (orielref26_Unquote.l0 kj33 a0 (x4_2 ++ (strOfNums y213)) (wrap64 ((ji54) + 1))) else (none)) = some (r1, r2) := by first | (rw [hy213]; with_reducible exact H) | (have H2_ := (Option.bind_some _ _).symm.trans H; rw [hy213]; with_reducible exact H2_) | (have H2_ := (Option.bind_some _ _).symm.trans H; with_reducible exact H2_) | with_reducible exact H | (rw [hy213]; exact H) | exact H
                        have Ny213 := Aside0.mk hy213
                        clear hy213
                        by_cases c59 : x4_2.size + (strOfNums y213).size ≤ 9223372036854775807
                        ·rw [if_pos c59] at H
                         have c59b0 := eq_true c59
                         have c59b1 : decide (x4_2.size + (strOfNums y213).size ≤ 9223372036854775807) = true := decide_eq_true c59
                         try have c59b2 : (9223372036854775807 < x4_2.size + (strOfNums y213).size) = False := eq_false (Nat.not_lt.2 c59)
                         have H' := Aside0.mk H
                         clear H
                         try go_wp2
                         have n0_ := Aside0.mk (below_drew1 HB.out)
                         clear HB
                         have HB := n0_
                         clear n0_
                         have p52 : 0 ≤ ((ji49) : Int) := of_decide_eq_true (by first | (with_reducible assumption) | assumption)
                         have q52 : (ji49) < (a0.size : Int) := of_decide_eq_true (by first | (with_reducible assumption) | assumption)
                         have hx52 := bt_at a0 (ji49)
                         replace p52 := eq_true p52
                         replace q52 := eq_true q52
                         have p57 : 0 ≤ ((ji54) : Int) := of_decide_eq_true (by first | (with_reducible assumption) | assumption)
                         have q57 : (ji54) < (a0.size : Int) := of_decide_eq_true (by first | (with_reducible assumption) | assumption)
                         have hx57 := bt_at a0 (ji54)
                         replace p57 := eq_true p57
                         replace q57 := eq_true q57
                         refine start_ (n := 18) (S := fun w' => True) (ds := []) #[false, false, false, false, false, false, false, false, false, false, false, false, false, false, false, false, false, false] (by kernel_rfl) rfl rfl trivial (fun hHeld => ?_); refine with_tabW orielref26_Unquote.tab19 orielref26_Unquote.bits19 (fun HT_ HW_ => ?_)
                         generalize wc.drew = w60 at HB hHeld ⊢
                         refine pure_ (i := 0) (N := some 97) (v := ?_) (a' := ?_) (bz22_ 18 1) rfl rfl (any_of HT_.out (by kernel_rfl)) (fun _ _ _ h => h) (Or.inl ⟨by rfl, ?_⟩) ?_ ?_
                         rotate_left
                         ·intro w'
                          go_simp
                          with_reducible rfl
                         rotate_left
                         ·simp only [Act.put, List.setIfInBounds_toArray, List.set_cons_zero, List.set_cons_succ, i64_w, i32_w]
                          rfl
                         refine pure_ (i := 1) (N := some 98) (v := ?_) (a' := ?_) (bz22_ 18 3) rfl rfl (any_of HT_.out (by kernel_rfl)) (fun _ _ _ h => h) (Or.inl ⟨by rfl, ?_⟩) ?_ ?_
                         rotate_left
                         ·intro w'
                          go_simp
                          with_reducible rfl
                         rotate_left
                         ·simp only [Act.put, List.setIfInBounds_toArray, List.set_cons_zero, List.set_cons_succ, i64_w, i32_w]
                          rfl
                         refine pure_ (i := 2) (N := some 99) (v := ?_) (a' := ?_) (bz22_ 18 7) rfl rfl (any_of HT_.out (by kernel_rfl)) (fun _ _ _ h => h) (Or.inl ⟨by rfl, ?_⟩) ?_ ?_
                         rotate_left
                         ·intro w'
                          go_simp
                          with_reducible rfl
                         rotate_left
                         ·simp only [Act.put, List.setIfInBounds_toArray, List.set_cons_zero, List.set_cons_succ, i64_w, i32_w]
                          rfl
                         refine pure_ (i := 3) (N := some 100) (v := ?_) (a' := ?_) (bz22_ 18 15) rfl rfl (any_of HT_.out (by kernel_rfl)) (fun _ _ _ h => h) (Or.inl ⟨by rfl, ?_⟩) ?_ ?_
                         rotate_left
                         ·intro w'
                          go_simp
                          with_reducible rfl
                         rotate_left
                         ·simp only [Act.put, List.setIfInBounds_toArray, List.set_cons_zero, List.set_cons_succ, i64_w, i32_w]
                          rfl
                         refine pure_ (i := 7) (N := some 104) (v := ?_) (a' := ?_) (bz22_ 18 143) rfl rfl (any_of HT_.out (by kernel_rfl)) (fun _ _ _ h => h) (Or.inl ⟨by rfl, ?_⟩) ?_ ?_
                         rotate_left
                         ·intro w'
                          go_simp
                          with_reducible rfl
                         rotate_left
                         ·simp only [Act.put, List.setIfInBounds_toArray, List.set_cons_zero, List.set_cons_succ, i64_w, i32_w]
                          rfl
                         refine pure_ (i := 8) (N := some 105) (v := ?_) (a' := ?_) (bz22_ 18 399) rfl rfl (any_of HT_.out (by kernel_rfl)) (fun _ _ _ h => h) (Or.inl ⟨by rfl, ?_⟩) ?_ ?_
                         rotate_left
                         ·intro w'
                          go_simp
                          with_reducible rfl
                         rotate_left
                         ·simp only [Act.put, List.setIfInBounds_toArray, List.set_cons_zero, List.set_cons_succ, i64_w, i32_w]
                          rfl
                         refine pure_ (i := 9) (N := some 106) (v := ?_) (a' := ?_) (bz22_ 18 911) rfl rfl (any_of HT_.out (by kernel_rfl)) (fun _ _ _ h => h) (Or.inl ⟨by rfl, ?_⟩) ?_ ?_
                         rotate_left
                         ·intro w'
                          go_simp
                          with_reducible rfl
                         rotate_left
                         ·simp only [Act.put, List.setIfInBounds_toArray, List.set_cons_zero, List.set_cons_succ, i64_w, i32_w]
                          rfl
                         refine take_ (i := 4) (N := some 101) (v := ?_) (a' := ?_) (bz22_ 18 927) rfl rfl (take_ofW HT_.out HW_.out (by kernel_rfl)) (fun _ _ _ h => h) (Or.inl ⟨by rfl, ?_⟩) hHeld ?_ ?_
                         rotate_left
                         ·intro w' _
                          go_simp
                          with_reducible rfl
                         rotate_left
                         ·simp only [Act.put, List.setIfInBounds_toArray, List.set_cons_zero, List.set_cons_succ, i64_w, i32_w]
                          rfl
                         refine take_ (i := 10) (N := some 107) (v := ?_) (a' := ?_) (bz22_ 18 1951) rfl rfl (take_ofW HT_.out HW_.out (by kernel_rfl)) (fun _ _ _ h => h) (Or.inl ⟨by rfl, ?_⟩) hHeld ?_ ?_
                         rotate_left
                         ·intro w' _
                          go_simp
                          with_reducible rfl
                         rotate_left
                         ·simp only [Act.put, List.setIfInBounds_toArray, List.set_cons_zero, List.set_cons_succ, i64_w, i32_w]
                          rfl
                         refine one_ (i := 5) (N := some 102) (bz22_ 18 1983) rfl rfl (one_of HT_.out (by kernel_rfl)) (by decide) (fun K hK => ?_)
                         refine goes_ Tryd.func61 (by kernel_rfl) rfl #[.int .u8 (bt a0 (ji49))] (by rfl) rfl rfl (by (try simp only [List.map_toArray, List.map_cons, List.map_nil]); first | done | (simp only [hji49]; rfl) | rfl | (simp only [List.length_drop, List.length_take]; rfl)) ?_
                         with_reducible refine (orielref26_hex.calls kj33 (bt a0 (ji49)) t211 _ A53.out).mono ?_
                         rintro e w' ⟨rfl, ⟨nd, rfl⟩⟩
                         refine ⟨_, rfl, ?_⟩
                         refine hK.out _ _ trivial (fun hHeld => ?_)
                         clear hK K
                         refine norm_ (a' := ?_) ?_ ?_
                         rotate_left
                         ·show Act.put _ (some 102) _ = _
                          simp only [Act.put, List.setIfInBounds_toArray, List.set_cons_zero, List.set_cons_succ, i64_w, i32_w]
                          rfl
                         refine pure_ (i := 6) (N := some 103) (v := ?_) (a' := ?_) (bz22_ 18 2047) rfl rfl (any_of HT_.out (by kernel_rfl)) (fun _ _ _ h => h) (Or.inl ⟨by rfl, ?_⟩) ?_ ?_
                         rotate_left
                         ·intro w'
                          go_simp
                          with_reducible rfl
                         rotate_left
                         ·simp only [Act.put, List.setIfInBounds_toArray, List.set_cons_zero, List.set_cons_succ, i64_w, i32_w]
                          rfl
                         refine one_ (i := 11) (N := some 108) (bz22_ 18 4095) rfl rfl (one_of HT_.out (by kernel_rfl)) (by decide) (fun K hK => ?_)
                         refine goes_ Tryd.func61 (by kernel_rfl) rfl #[.int .u8 (bt a0 (ji54))] (by rfl) rfl rfl (by (try simp only [List.map_toArray, List.map_cons, List.map_nil]); first | done | (simp only [hji54]; rfl) | rfl | (simp only [List.length_drop, List.length_take]; rfl)) ?_
                         with_reducible refine (orielref26_hex.calls kj33 (bt a0 (ji54)) t212 _ A58.out).mono ?_
                         rintro e w' ⟨rfl, ⟨nd, rfl⟩⟩
                         refine ⟨_, rfl, ?_⟩
                         refine hK.out _ _ trivial (fun hHeld => ?_)
                         clear hK K
                         refine norm_ (a' := ?_) ?_ ?_
                         rotate_left
                         ·show Act.put _ (some 108) _ = _
                          simp only [Act.put, List.setIfInBounds_toArray, List.set_cons_zero, List.set_cons_succ, i64_w, i32_w]
                          rfl
                         refine pure_ (i := 12) (N := some 109) (v := ?_) (a' := ?_) (bz22_ 18 8191) rfl rfl (any_of HT_.out (by kernel_rfl)) (fun _ _ _ h => h) (Or.inl ⟨by rfl, ?_⟩) ?_ ?_
                         rotate_left
                         ·intro w'
                          go_simp
                          with_reducible rfl
                         rotate_left
                         ·simp only [Act.put, List.setIfInBounds_toArray, List.set_cons_zero, List.set_cons_succ, i64_w, i32_w]
                          rfl
                         refine pure_ (i := 13) (N := some 110) (v := ?_) (a' := ?_) (bz22_ 18 16383) rfl rfl (any_of HT_.out (by kernel_rfl)) (fun _ _ _ h => h) (Or.inl ⟨by rfl, ?_⟩) ?_ ?_
                         rotate_left
                         ·intro w'
                          go_simp
                          with_reducible rfl
                         rotate_left
                         ·simp only [Act.put, List.setIfInBounds_toArray, List.set_cons_zero, List.set_cons_succ, i64_w, i32_w]
                          rfl
                         refine one_ (i := 14) (N := some 111) (bz22_ 18 32767) rfl rfl (one_of HT_.out (by kernel_rfl)) (by decide) (fun K hK => ?_)
                         refine Kd.R_lit_step (Kd.int .u8) _ 5 ?hg (N := 111) ?hd (xs := ([(wrap64 ((wrap64 (16 * t211)) + t212)) % 256] : List Int)) (inner := [.int .u8 ((wrap64 ((wrap64 (16 * t211)) + t212)) % 256)]) (ok := fun _ => True) (okp := fun _ => True) ?hr ?hp (fun _ hk => hk) trivial (Below.refl _ _) (Nat.le_refl _) (by simp) ?_; (case hd => rfl); (case hg => rfl); (case hr => first | (go_simp; done) | (go_simp; rfl)); (case hp => exact (Reps.one (show Kd.M (Kd.int .u8) _ _ _ ((wrap64 ((wrap64 (16 * t211)) + t212)) % 256) [.int .u8 ((wrap64 ((wrap64 (16 * t211)) + t212)) % 256)] from rfl) (Reps.none _ _)))
                         intro v214 w61 ho62 hb hg_ hnew_
                         clear hg_ hnew_
                         (first | rw [← Ny213.out] at ho62 | (simp only [Int.reduceToNat] at ho62; rw [← Ny213.out] at ho62))
                         have n0_ := Aside0.mk (Kd.R_lower ho62 (below_size (by repeat (first | (with_reducible first | exact HB.out | apply below_alloc | apply pw_below_drewN | apply below_drew1) | exact HB.out))))
                         have n1_ := Aside0.mk (below_step (by repeat (first | (with_reducible first | exact HB.out | apply below_alloc | apply pw_below_drewN | apply below_drew1) | exact HB.out)) hb)
                         clear HB
                         have HO215 := n0_
                         have HB := n1_
                         clear n0_ n1_
                         clear hb ho62
                         refine hK.out _ _ trivial (fun hHeld => ?_)
                         clear hK K
                         refine norm_ (a' := ?_) ?_ ?_
                         rotate_left
                         ·show Act.put _ (some 111) _ = _
                          simp only [Act.put, List.setIfInBounds_toArray, List.set_cons_zero, List.set_cons_succ, i64_w, i32_w]
                          rfl
                         refine one_ (i := 15) (N := some 112) (bz22_ 18 65535) rfl rfl (one_of HT_.out (by kernel_rfl)) (by decide) (fun K hK => ?_)
                         have hcv63 := own_string (P := Tryd.prog) Tryd.underlying77 Tryd.underlying5 Tryd.underlying9 (Kd.own_of_R HO215.out); have hcv63m := fun m_ => own_string (P := Tryd.prog) Tryd.underlying77 Tryd.underlying5 Tryd.underlying9 (Kd.own_of_R (Kd.R_drewN HO215.out m_))
                         refine value_ (w1 := ?_) (v := ?_) (by rfl) rfl ?_ ?_
                         rotate_left 2
                         ·go_simp
                          constructor
                          ·rfl
                          ·rfl
                         clear hcv63
                         refine hK.out _ _ trivial (fun hHeld => ?_)
                         clear hK K
                         refine norm_ (a' := ?_) ?_ ?_
                         rotate_left
                         ·show Act.put _ (some 112) _ = _
                          simp only [Act.put, List.setIfInBounds_toArray, List.set_cons_zero, List.set_cons_succ, i64_w, i32_w]
                          rfl
                         refine pure_ (i := 16) (N := some 113) (v := ?_) (a' := ?_) (bz22_ 18 131071) rfl rfl (any_of HT_.out (by kernel_rfl)) (fun _ _ _ h => h) (Or.inl ⟨by rfl, ?_⟩) ?_ ?_
                         rotate_left
                         ·intro w'
                          go_simp
                          with_reducible rfl
                         rotate_left
                         ·simp only [Act.put, List.setIfInBounds_toArray, List.set_cons_zero, List.set_cons_succ, i64_w, i32_w]
                          rfl
                         refine pure_ (i := 17) (N := some 4) (v := ?_) (a' := ?_) (bz22_ 18 262143) rfl rfl (any_of HT_.out (by kernel_rfl)) (fun _ _ _ h => h) (Or.inl ⟨by rfl, ?_⟩) ?_ ?_
                         rotate_left
                         ·intro w'
                          go_simp
                          with_reducible rfl
                         rotate_left
                         ·simp only [Act.put, List.setIfInBounds_toArray, List.set_cons_zero, List.set_cons_succ, i64_w, i32_w]
                          rfl
                         refine done_ (done_of HT_.out (by kernel_rfl)) ?_
                         try go_wp2
                         go_roundg kj33
                         case measure => have := HJ1.out; have := HK2.out; have := HJ26.out; have := HJ33.out; omega
                         case rel => exact ⟨(x4_2 ++ (strOfNums y213)), (wrap64 ((ji54) + 1)), (by first | rfl | (simp; done) | (simp [*]; done)), (by first | rfl | (simp; done) | (simp only [← hji54] <;> (first | rfl | simp)) | (simp [*]; done)), H', ⟨by have := HJ1.out; have := HK2.out; have := HJ26.out; have := HJ33.out; omega⟩, ⟨by exact HB.out⟩⟩
                        ·rw [if_neg c59] at H
                         exact absurd H (by simp)
                       ·rw [if_neg c56] at H
                        exact absurd H (by simp)
                      ·rw [if_neg c55] at H
                       exact absurd H (by simp)
                     ·rw [if_neg c51] at H
                      exact absurd H (by simp)
                    ·rw [if_neg c50] at H
                     exact absurd H (by simp)
                   ·replace c48 := Bool.eq_false_iff.mpr c48
                    subst c48
                    have H1 : (some ((⟨#[]⟩ : ByteArray), false)) = some (r1, r2) := by rw [if_neg (show ¬ (false = true) by decide)] at H; exact H
                    clear H
                    have H := H1
                    clear H1
                    simp only [Option.some.injEq, Prod.mk.injEq] at H
                    obtain ⟨rfl, rfl⟩ := H
                    go_wp2
                    go_ret2
                    exact ⟨by first | rfl | (simp [errW_none, errW_some] <;> rfl) | (simp only [← hji18]; first | rfl | (simp [errW_none, errW_some] <;> rfl)) | (simp [*, errW_none, errW_some] <;> rfl), by exact HB.out⟩
            ·rw [if_neg c20] at H
             exact absurd H (by simp)
           ·rw [if_neg c19] at H
            exact absurd H (by simp)
         ·rw [if_neg c16] at H
          have c16b0 : ((bt a0 x5_2) == 92) = false := beq_eq_false_iff_ne.mpr c16
          have c16b1 : ((bt a0 x5_2) != 92) = true := bne_iff_ne.mpr c16
          have c64b0 := eq_true (of_decide_eq_true (by first | (with_reducible assumption) | assumption) : 0 ≤ x5_2)
          by_cases c65 : x5_2 ≤ (wrap64 (x5_2 + 1))
          ·rw [if_pos c65] at H
           have c65b0 := eq_true c65
           have c65b1 : decide (x5_2 ≤ (wrap64 (x5_2 + 1))) = true := decide_eq_true c65
           by_cases c66 : (wrap64 (x5_2 + 1)) ≤ (a0.size : Int)
           ·rw [if_pos c66] at H
            have c66b0 := eq_true c66
            have c66b1 : decide ((wrap64 (x5_2 + 1)) ≤ (a0.size : Int)) = true := decide_eq_true c66
            by_cases c67 : x4_2.size + (a0.extract (x5_2 : Int).toNat ((wrap64 (x5_2 + 1)) : Int).toNat).size ≤ 9223372036854775807
            ·rw [if_pos c67] at H
             have c67b0 := eq_true c67
             have c67b1 : decide (x4_2.size + (a0.extract (x5_2 : Int).toNat ((wrap64 (x5_2 + 1)) : Int).toNat).size ≤ 9223372036854775807) = true := decide_eq_true c67
             try have c67b2 : (9223372036854775807 < x4_2.size + (a0.extract (x5_2 : Int).toNat ((wrap64 (x5_2 + 1)) : Int).toNat).size) = False := eq_false (Nat.not_lt.2 c67)
             have H' := Aside0.mk H
             clear H
             have p15 : 0 ≤ (x5_2 : Int) := of_decide_eq_true (by first | (with_reducible assumption) | assumption)
             have q15 : x5_2 < (a0.size : Int) := of_decide_eq_true (by first | (with_reducible assumption) | assumption)
             have hx15 := bt_at a0 x5_2
             replace p15 := eq_true p15
             replace q15 := eq_true q15
             go_wp2
             go_roundg k2
             case measure => have := HJ1.out; have := HK2.out; omega
             case rel => exact ⟨(x4_2 ++ (a0.extract (x5_2 : Int).toNat ((wrap64 (x5_2 + 1)) : Int).toNat)), (wrap64 (x5_2 + 1)), (by first | rfl | (simp; done) | (simp [*]; done)), (by first | rfl | (simp; done) | (simp [*]; done)), H', ⟨by have := HJ1.out; have := HK2.out; omega⟩, ⟨by exact HB.out⟩⟩
            ·rw [if_neg c67] at H
             exact absurd H (by simp)
           ·rw [if_neg c66] at H
            exact absurd H (by simp)
          ·rw [if_neg c65] at H
           exact absurd H (by simp)
        ·rw [if_neg c14] at H
         exact absurd H (by simp)
       ·rw [if_neg c13] at H
        exact absurd H (by simp)
      ·rw [if_neg c12] at H
       have c12b0 : decide (x5_2 < (wrap64 ((a0.size : Int) - 1))) = false := decide_eq_false c12
       clear c12
       replace H := Option.bind_eq_some_iff.mp H
       obtain ⟨t216, A680, H⟩ := H
       replace H : (if t216.toList = a0.toList then (some (x4_2, true)) else (some ((⟨#[]⟩ : ByteArray), false))) = some (r1, r2) := H
       have A68 := Aside0.mk A680
       clear A680
       by_cases c69 : t216.toList = a0.toList
       ·rw [if_pos c69] at H
        have c69b0 : (t216.toList == a0.toList) = true := beq_iff_eq.mpr c69
        have c69b1 : (t216.toList != a0.toList) = false := bne_eq_false_iff_eq.mpr c69
        clear c69
        simp only [Option.some.injEq, Prod.mk.injEq] at H
        obtain ⟨rfl, rfl⟩ := H
        go_wp2_with (first | ((with_reducible refine gate_callee (f := 50) rfl ?_); refine goesL_ (some 117) rfl rfl Tryd.func50 (by kernel_rfl) rfl #[.string x4_2] rfl (by (try simp only [List.map_toArray, List.map_cons, List.map_nil]); first | done | rfl | (simp only [List.length_drop, List.length_take]; rfl)) ?_; (with_reducible refine (orielref25_Quote.calls k2 x4_2 t216 _ A68.out).mono ?_); rintro e w70 ⟨rfl, hb⟩; refine ⟨_, rfl, ?_⟩; have n0_ := Aside0.mk (below_step (by exact HB.out) hb); clear HB; have HB := n0_; clear n0_; (try clear hb); (try clear hb2); (try clear hk); (try clear hi)))
        go_ret2
        exact ⟨by first | rfl | (simp [errW_none, errW_some] <;> rfl) | (simp [*, errW_none, errW_some] <;> rfl), by exact HB.out⟩
       ·rw [if_neg c69] at H
        have c69b0 : (t216.toList == a0.toList) = false := beq_eq_false_iff_ne.mpr c69
        have c69b1 : (t216.toList != a0.toList) = true := bne_iff_ne.mpr c69
        simp only [Option.some.injEq, Prod.mk.injEq] at H
        obtain ⟨rfl, rfl⟩ := H
        go_wp2_with (first | ((with_reducible refine gate_callee (f := 50) rfl ?_); refine goesL_ (some 117) rfl rfl Tryd.func50 (by kernel_rfl) rfl #[.string x4_2] rfl (by (try simp only [List.map_toArray, List.map_cons, List.map_nil]); first | done | rfl | (simp only [List.length_drop, List.length_take]; rfl)) ?_; (with_reducible refine (orielref25_Quote.calls k2 x4_2 t216 _ A68.out).mono ?_); rintro e w71 ⟨rfl, hb⟩; refine ⟨_, rfl, ?_⟩; have n0_ := Aside0.mk (below_step (by exact HB.out) hb); clear HB; have HB := n0_; clear n0_; (try clear hb); (try clear hb2); (try clear hk); (try clear hi)))
        go_ret2
        exact ⟨by first | rfl | (simp [errW_none, errW_some] <;> rfl) | (simp [*, errW_none, errW_some] <;> rfl), by exact HB.out⟩
end Go.Proofs.YtnemooemifbbhaaDoor.PDT
