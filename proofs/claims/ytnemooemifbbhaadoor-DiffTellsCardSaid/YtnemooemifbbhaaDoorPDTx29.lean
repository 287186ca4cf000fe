-- Written by ownprint.py, a program of this session (out of the kit's print, with contracts of the session's own).
import Derived.Test.YtnemooemifbbhaaDoorPDTx0
import Derived.Test.YtnemooemifbbhaaDoorPDTx2
import Derived.Test.YtnemooemifbbhaaDoorPDTx5
import Derived.Test.YtnemooemifbbhaaDoorPDTx7
import Derived.Test.YtnemooemifbbhaaDoorPDTx11
import Derived.Test.YtnemooemifbbhaaDoorPDTx17
import Derived.Test.YtnemooemifbbhaaDoorPDTx25
import Derived.Test.YtnemooemifbbhaaDoorPDTx26
import Derived.Test.YtnemooemifbbhaaDoorPDTx28
namespace Go.Proofs.YtnemooemifbbhaaDoor.PDT
open Go.RowKit Go.Proofs.YtnemooemifbbhaaDoorW.PrintWords Go.Proofs.YtnemooemifbbhaaDoorW.PrintLast Go.Proofs.YtnemooemifbbhaaDoorW.PrintMore
attribute [local go_sem] max2_int min2_int max_two min_two max_three min_three max_four min_four   -- for this text's walks alone
set_option linter.unusedVariables false
set_option linter.unusedSimpArgs false
/-! ### oriellaw27_DiffTells: function 7 -/
mutual
def oriellaw27_DiffTells.j1 : Nat → ByteArray → List (S56) → ByteArray → Int → Option (Bool)
 | 0, _, _, _, _ => none
 | k + 1, x0, x1, x2, x7 => (oriellaw27_few.f x0).bind fun t254 => (if t254 = true then (if (x1.length : Int) > 40 then (oriellaw27_DiffTells.j2 k x0 x1 x2 true) else (if x7 > 600 then (oriellaw27_DiffTells.j2 k x0 x1 x2 true) else (oriellaw27_DiffTells.j2 k x0 x1 x2 (decide ((x2.size : Int) > 500))))) else (oriellaw27_DiffTells.j2 k x0 x1 x2 true))
def oriellaw27_DiffTells.j2 : Nat → ByteArray → List (S56) → ByteArray → Bool → Option (Bool)
 | 0, _, _, _, _ => none
 | k + 1, x0, x1, x2, x52 => if x52 = true then ((oriellaw27_alive.f k).bind fun t255 => (some t255)) else ((diff_Tell.f k x0 x1).bind fun bt256 => ((diff_Read.f k x2).bind fun bt258 => ((orielref27_Read.f k x2).bind fun bt262 => (if (bt258.2 != bt262.2) = true then (none) else ((orielref02_Same.f k bt258.1 bt262.1).bind fun t266 => (if t266 = true then ((orielref02_Check.f k (x0.size : Int) x1).bind fun t267 => (oriellaw27_DiffTells.j3 k x1 bt256.1 bt256.2 (bt256.2 != t267))) else (none)))))))
def oriellaw27_DiffTells.j3 : Nat → List (S56) → ByteArray → Int → Bool → Option (Bool)
 | 0, _, _, _, _ => none
 | k + 1, x1, x9, x10, x86 => if x86 = true then (none) else (if x10 = 0 then ((diff_Read.f k x9).bind fun bt269 => ((orielref27_Tell.f k x1).bind fun t273 => (if x9.toList = t273.toList then (if bt269.2 = true then ((orielref02_Same.f k bt269.1 x1).bind fun t274 => (if t274 = true then ((oriellaw27_alive.f k).bind fun t275 => (some t275)) else (none))) else (none)) else (none)))) else (if x9.toList = ([] : List UInt8) then ((oriellaw27_alive.f k).bind fun t268 => (some t268)) else (none)))
def oriellaw27_DiffTells.l0 : Nat → ByteArray → List (S56) → ByteArray → Int → Int → Option (Bool)
 | 0, _, _, _, _, _ => none
 | k + 1, x0, x1, x2, x7, x8 => if x8 < (x1.length : Int) then (if x8 ≤ 40 then (if 0 ≤ x8 then (oriellaw27_DiffTells.l0 k x0 x1 x2 (wrap64 (x7 + (mn (((rd_T56 x1 x8).f2).size : Int) 5000))) (wrap64 (x8 + 1))) else (none)) else (oriellaw27_DiffTells.j1 k x0 x1 x2 x7)) else (oriellaw27_DiffTells.j1 k x0 x1 x2 x7)
end
def oriellaw27_DiffTells.f (k : Nat) (a0 : ByteArray) (l1 : List (S56)) (a2 : ByteArray) : Option (Bool) := oriellaw27_DiffTells.l0 k a0 l1 a2 0 0
theorem oriellaw27_DiffTells.mono_l : ∀ k, (∀ y0 y1 y2 y3, LeO (oriellaw27_DiffTells.j1 k y0 y1 y2 y3) (oriellaw27_DiffTells.j1 (k + 1) y0 y1 y2 y3)) ∧ (∀ y0 y1 y2 y3, LeO (oriellaw27_DiffTells.j2 k y0 y1 y2 y3) (oriellaw27_DiffTells.j2 (k + 1) y0 y1 y2 y3)) ∧ (∀ y0 y1 y2 y3, LeO (oriellaw27_DiffTells.j3 k y0 y1 y2 y3) (oriellaw27_DiffTells.j3 (k + 1) y0 y1 y2 y3)) ∧ (∀ y0 y1 y2 y3 y4, LeO (oriellaw27_DiffTells.l0 k y0 y1 y2 y3 y4) (oriellaw27_DiffTells.l0 (k + 1) y0 y1 y2 y3 y4))
 | 0 => ⟨fun _ _ _ _ r h => by simp [oriellaw27_DiffTells.j1] at h, fun _ _ _ _ r h => by simp [oriellaw27_DiffTells.j2] at h, fun _ _ _ _ r h => by simp [oriellaw27_DiffTells.j3] at h, fun _ _ _ _ _ r h => by simp [oriellaw27_DiffTells.l0] at h⟩
 | k + 1 => by
  obtain ⟨ih0, ih1, ih2, ih3⟩ := oriellaw27_DiffTells.mono_l k
  refine ⟨?_, ?_, ?_, ?_⟩
  ·intro y0 y1 y2 y3
   unfold oriellaw27_DiffTells.j1
   repeat' first
   | (with_reducible exact ih0 _ _ _ _)
   | (with_reducible exact ih1 _ _ _ _)
   | (with_reducible exact ih2 _ _ _ _)
   | (with_reducible exact ih3 _ _ _ _ _)
   | (with_reducible exact diff_Read.mono _ _)
   | (with_reducible exact diff_Tell.mono _ _ _)
   | (with_reducible exact oriellaw27_alive.mono _)
   | (with_reducible exact orielref02_Check.mono _ _ _)
   | (with_reducible exact orielref02_Same.mono _ _ _)
   | (with_reducible exact orielref27_Read.mono _ _)
   | (with_reducible exact orielref27_Tell.mono _ _)
   | (with_reducible exact LeO.refl _)
   | (with_reducible exact LeO.none _)
   | (with_reducible refine LeO.ite ?_ ?_)
   | (with_reducible refine LeO.bind ?_ (fun _ => ?_))
   | exact ih0 _ _ _ _
   | exact ih1 _ _ _ _
   | exact ih2 _ _ _ _
   | exact ih3 _ _ _ _ _
   | exact diff_Read.mono _ _
   | exact diff_Tell.mono _ _ _
   | exact oriellaw27_alive.mono _
   | exact orielref02_Check.mono _ _ _
   | exact orielref02_Same.mono _ _ _
   | exact orielref27_Read.mono _ _
   | exact orielref27_Tell.mono _ _
   | exact LeO.none _
   | refine LeO.ite ?_ ?_
   | refine LeO.bind ?_ (fun _ => ?_)
  ·intro y0 y1 y2 y3
   unfold oriellaw27_DiffTells.j2
   repeat' first
   | (with_reducible exact ih0 _ _ _ _)
   | (with_reducible exact ih1 _ _ _ _)
   | (with_reducible exact ih2 _ _ _ _)
   | (with_reducible exact ih3 _ _ _ _ _)
   | (with_reducible exact diff_Read.mono _ _)
   | (with_reducible exact diff_Tell.mono _ _ _)
   | (with_reducible exact oriellaw27_alive.mono _)
   | (with_reducible exact orielref02_Check.mono _ _ _)
   | (with_reducible exact orielref02_Same.mono _ _ _)
   | (with_reducible exact orielref27_Read.mono _ _)
   | (with_reducible exact orielref27_Tell.mono _ _)
   | (with_reducible exact LeO.refl _)
   | (with_reducible exact LeO.none _)
   | (with_reducible refine LeO.ite ?_ ?_)
   | (with_reducible refine LeO.bind ?_ (fun _ => ?_))
   | exact ih0 _ _ _ _
   | exact ih1 _ _ _ _
   | exact ih2 _ _ _ _
   | exact ih3 _ _ _ _ _
   | exact diff_Read.mono _ _
   | exact diff_Tell.mono _ _ _
   | exact oriellaw27_alive.mono _
   | exact orielref02_Check.mono _ _ _
   | exact orielref02_Same.mono _ _ _
   | exact orielref27_Read.mono _ _
   | exact orielref27_Tell.mono _ _
   | exact LeO.none _
   | refine LeO.ite ?_ ?_
   | refine LeO.bind ?_ (fun _ => ?_)
  ·intro y0 y1 y2 y3
   unfold oriellaw27_DiffTells.j3
   repeat' first
   | (with_reducible exact ih0 _ _ _ _)
   | (with_reducible exact ih1 _ _ _ _)
   | (with_reducible exact ih2 _ _ _ _)
   | (with_reducible exact ih3 _ _ _ _ _)
   | (with_reducible exact diff_Read.mono _ _)
   | (with_reducible exact diff_Tell.mono _ _ _)
   | (with_reducible exact oriellaw27_alive.mono _)
   | (with_reducible exact orielref02_Check.mono _ _ _)
   | (with_reducible exact orielref02_Same.mono _ _ _)
   | (with_reducible exact orielref27_Read.mono _ _)
   | (with_reducible exact orielref27_Tell.mono _ _)
   | (with_reducible exact LeO.refl _)
   | (with_reducible exact LeO.none _)
   | (with_reducible refine LeO.ite ?_ ?_)
   | (with_reducible refine LeO.bind ?_ (fun _ => ?_))
   | exact ih0 _ _ _ _
   | exact ih1 _ _ _ _
   | exact ih2 _ _ _ _
   | exact ih3 _ _ _ _ _
   | exact diff_Read.mono _ _
   | exact diff_Tell.mono _ _ _
   | exact oriellaw27_alive.mono _
   | exact orielref02_Check.mono _ _ _
   | exact orielref02_Same.mono _ _ _
   | exact orielref27_Read.mono _ _
   | exact orielref27_Tell.mono _ _
   | exact LeO.none _
   | refine LeO.ite ?_ ?_
   | refine LeO.bind ?_ (fun _ => ?_)
  ·intro y0 y1 y2 y3 y4
   unfold oriellaw27_DiffTells.l0
   repeat' first
   | (with_reducible exact ih0 _ _ _ _)
   | (with_reducible exact ih1 _ _ _ _)
   | (with_reducible exact ih2 _ _ _ _)
   | (with_reducible exact ih3 _ _ _ _ _)
   | (with_reducible exact diff_Read.mono _ _)
   | (with_reducible exact diff_Tell.mono _ _ _)
   | (with_reducible exact oriellaw27_alive.mono _)
   | (with_reducible exact orielref02_Check.mono _ _ _)
   | (with_reducible exact orielref02_Same.mono _ _ _)
   | (with_reducible exact orielref27_Read.mono _ _)
   | (with_reducible exact orielref27_Tell.mono _ _)
   | (with_reducible exact LeO.refl _)
   | (with_reducible exact LeO.none _)
   | (with_reducible refine LeO.ite ?_ ?_)
   | (with_reducible refine LeO.bind ?_ (fun _ => ?_))
   | exact ih0 _ _ _ _
   | exact ih1 _ _ _ _
   | exact ih2 _ _ _ _
   | exact ih3 _ _ _ _ _
   | exact diff_Read.mono _ _
   | exact diff_Tell.mono _ _ _
   | exact oriellaw27_alive.mono _
   | exact orielref02_Check.mono _ _ _
   | exact orielref02_Same.mono _ _ _
   | exact orielref27_Read.mono _ _
   | exact orielref27_Tell.mono _ _
   | exact LeO.none _
   | refine LeO.ite ?_ ?_
   | refine LeO.bind ?_ (fun _ => ?_)
theorem oriellaw27_DiffTells.mono : ∀ a0 a1 a2 k, LeO (oriellaw27_DiffTells.f k a0 a1 a2) (oriellaw27_DiffTells.f (k + 1) a0 a1 a2) := by
 intro a0 a1 a2 k
 obtain ⟨ih0, ih1, ih2, ih3⟩ := oriellaw27_DiffTells.mono_l k
 unfold oriellaw27_DiffTells.f
 repeat' first
   | (with_reducible exact ih0 _ _ _ _)
   | (with_reducible exact ih1 _ _ _ _)
   | (with_reducible exact ih2 _ _ _ _)
   | (with_reducible exact ih3 _ _ _ _ _)
   | (with_reducible exact diff_Read.mono _ _)
   | (with_reducible exact diff_Tell.mono _ _ _)
   | (with_reducible exact oriellaw27_alive.mono _)
   | (with_reducible exact orielref02_Check.mono _ _ _)
   | (with_reducible exact orielref02_Same.mono _ _ _)
   | (with_reducible exact orielref27_Read.mono _ _)
   | (with_reducible exact orielref27_Tell.mono _ _)
   | (with_reducible exact LeO.refl _)
   | (with_reducible exact LeO.none _)
   | (with_reducible refine LeO.ite ?_ ?_)
   | (with_reducible refine LeO.bind ?_ (fun _ => ?_))
   | exact ih0 _ _ _ _
   | exact ih1 _ _ _ _
   | exact ih2 _ _ _ _
   | exact ih3 _ _ _ _ _
   | exact diff_Read.mono _ _
   | exact diff_Tell.mono _ _ _
   | exact oriellaw27_alive.mono _
   | exact orielref02_Check.mono _ _ _
   | exact orielref02_Same.mono _ _ _
   | exact orielref27_Read.mono _ _
   | exact orielref27_Tell.mono _ _
   | exact LeO.none _
   | refine LeO.ite ?_ ?_
   | refine LeO.bind ?_ (fun _ => ?_)
set_option maxHeartbeats 8000000 in
set_option maxRecDepth 100000 in
theorem oriellaw27_DiffTells.calls (k : Nat) (a0 : ByteArray) (A1 : Option Addr) (c1 : Nat) (l1 : List (S56)) (a2 : ByteArray) (r : Bool) (w : World) (hr1 : Kd.C k56 w A1 l1.length l1) (hc1 : l1.length ≤ c1) (hT : PowW w) (h : oriellaw27_DiffTells.f k a0 l1 a2 = some r) :
  Calls Tryd.prog 7 #[.string a0, .slice A1 l1.length c1, .string a2] w fun e w' => e = .returned (.bool r) ∧ Below w.heap.size w w' := by
 have HT := Aside0.mk hT
 clear hT
 have HR1 := Aside0.mk hr1
 have HC1 := Aside0.mk hc1
 clear hr1 hc1
 have HB := Aside0.mk (Below.refl w.heap.size w)
 have H : (oriellaw27_DiffTells.l0 k a0 l1 a2 0 0) = some r := h
 clear h
 have HC4 := Aside0.mk H
 clear H
 go_enter Tryd.func7, Tryd.ntmps7
 go_upto_block 0 with (fail)
 go_cut [7] (fun v7 wc => ∃ (kq : Nat) (x7_3 : Int), v7 = .int .i64 x7_3 ∧ Aside0 (oriellaw27_DiffTells.j1 kq a0 l1 a2 x7_3 = some r) ∧ Aside0 (kq ≤ k) ∧ Aside0 (Below w.heap.size w wc))
 case first =>
  have H := HC4.out
  clear HC4
  have H' := Aside0.mk H
  clear H
  go_wp2
  go_loopg [7, 8] k (fun kq v7 v8 w' => ∃ (x7_1 : Int) (x8_1 : Int), v7 = .int .i64 x7_1 ∧ v8 = .int .i64 x8_1 ∧ Aside0 (oriellaw27_DiffTells.l0 kq a0 l1 a2 x7_1 x8_1 = some r) ∧ Aside0 (kq ≤ k) ∧ Aside0 (Below w.heap.size w w'))
  case atStart => exact ⟨(0), (0), (by first | rfl | (simp; done) | (simp [*]; done)), (by first | rfl | (simp; done) | (simp [*]; done)), H', ⟨Nat.le_refl _⟩, ⟨by repeat (first | (with_reducible first | exact HB.out | apply below_alloc | apply pw_below_drewN | apply below_drew1) | exact HB.out)⟩⟩
  case round =>
   clear H'
   (try clear c1);(try clear p2)
   obtain ⟨x7_1, x8_1, rfl, rfl, HA, HK1, HB⟩ := hrel
   cases gk with
   | zero => exact absurd HA.out (by simp [oriellaw27_DiffTells.l0])
   | succ k1 =>
    have H := HA.out
    clear HA
    simp only [oriellaw27_DiffTells.l0] at H
    by_cases c5 : x8_1 < (l1.length : Int)
    ·rw [if_pos c5] at H
     have c5b0 : decide (x8_1 < (l1.length : Int)) = true := decide_eq_true c5
     clear c5
     (first | rw [c5b0] | (simp only [i64_w, i32_w]; rw [c5b0]) | skip)
     by_cases c6 : x8_1 ≤ 40
     ·rw [if_pos c6] at H
      have c6b0 : decide (x8_1 ≤ 40) = true := decide_eq_true c6
      clear c6
      by_cases c7 : 0 ≤ x8_1
      ·rw [if_pos c7] at H
       have c7b0 : decide (0 ≤ x8_1) = true := decide_eq_true c7
       clear c7
       obtain ⟨ji8, hji8⟩ : ∃ j_ : Int, (mn (((rd_T56 l1 x8_1).f2).size : Int) 5000) = j_ := ⟨_, rfl⟩
       replace H : (oriellaw27_DiffTells.l0 k1 a0 l1 a2 (wrap64 (x7_1 + (ji8))) (wrap64 (x8_1 + 1))) = some r := by first | (rw [hji8] at H; exact H) | (simp only [hji8] at H ⊢; exact H)
       have hji8_ : (if 5000 < (((rd_T56 l1 x8_1).f2).size : Int) then 5000 else (((rd_T56 l1 x8_1).f2).size : Int)) = ji8 := hji8
       have H' := Aside0.mk H
       clear H
       have p253 : 0 ≤ (x8_1 : Int) := of_decide_eq_true (by first | (with_reducible assumption) | assumption)
       have q253 : x8_1 < (l1.length : Int) := of_decide_eq_true (by first | (with_reducible assumption) | assumption)
       obtain ⟨ad253, e253, hx253_0, hx253_1, hx253_2⟩ := at_T56 HR1.out x8_1 p253 q253
       cases e253
       replace hx253_0 := (HB.out.cell (World.block_lt_of_cell? w _ hx253_0)).trans hx253_0
       replace hx253_1 := (HB.out.cell (World.block_lt_of_cell? w _ hx253_1)).trans hx253_1
       replace hx253_2 := (HB.out.cell (World.block_lt_of_cell? w _ hx253_2)).trans hx253_2
       replace p253 := eq_true p253
       replace q253 := eq_true q253
       go_wp2
       go_roundg k1
       case measure => have := HK1.out; omega
       case rel => exact ⟨(wrap64 (x7_1 + (ji8))), (wrap64 (x8_1 + 1)), (by first | rfl | (simp; done) | (simp only [← hji8] <;> (first | rfl | simp)) | (simp [*]; done)), (by first | rfl | (simp; done) | (simp [*]; done)), H', ⟨by have := HK1.out; omega⟩, ⟨by repeat (first | (with_reducible first | exact HB.out | apply below_alloc | apply pw_below_drewN | apply below_drew1) | exact HB.out)⟩⟩
      ·rw [if_neg c7] at H
       exact absurd H (by simp)
     ·rw [if_neg c6] at H
      have c6b0 : decide (x8_1 ≤ 40) = false := decide_eq_false c6
      clear c6
      have H' := Aside0.mk H
      clear H
      go_wp2
      go_meet
      case rel => exact ⟨_, (x7_1), (by first | rfl | (simp; done) | (simp [*]; done)), H', ⟨by have := HK1.out; first | omega | exact Nat.le_refl _⟩, ⟨by repeat (first | (with_reducible first | exact HB.out | apply below_alloc | apply pw_below_drewN | apply below_drew1) | exact HB.out)⟩⟩
    ·rw [if_neg c5] at H
     have c5b0 : decide (x8_1 < (l1.length : Int)) = false := decide_eq_false c5
     clear c5
     (first | rw [c5b0] | (simp only [i64_w, i32_w]; rw [c5b0]) | skip)
     have H' := Aside0.mk H
     clear H
     go_wp2
     go_meet
     case rel => exact ⟨_, (x7_1), (by first | rfl | (simp; done) | (simp [*]; done)), H', ⟨by have := HK1.out; first | omega | exact Nat.le_refl _⟩, ⟨by repeat (first | (with_reducible first | exact HB.out | apply below_alloc | apply pw_below_drewN | apply below_drew1) | exact HB.out)⟩⟩
 case rest =>
  clear HC4
  (try clear c1);(try clear p2);(try clear q2);(try clear hx2);(try clear c5);(try clear c5b0);(try clear c6);(try clear c6b0);(try clear p6);(try clear c7);(try clear c7b0);(try clear hx253_0);(try clear hx253_1);(try clear hx253_2);(try clear p2);(try clear p253);(try clear q253)
  obtain ⟨kq, x7_3, rfl, HA, HJ3, HB⟩ := hcut
  cases kq with
  | zero => exact absurd HA.out (by simp [oriellaw27_DiffTells.j1])
  | succ kj3 =>
   have H := HA.out
   clear HA
   simp only [oriellaw27_DiffTells.j1] at H
   have HC9 := Aside0.mk H
   clear H
   go_upto_region 6 with (fail)
   go_cut [52] (fun v52 wc => ∃ (kq : Nat) (x52_8 : Bool), v52 = .bool x52_8 ∧ Aside0 (oriellaw27_DiffTells.j2 kq a0 l1 a2 x52_8 = some r) ∧ Aside0 (kq ≤ kj3) ∧ Aside0 (Below w.heap.size w wc))
   case first =>
    have H := HC9.out
    clear HC9
    replace H := Option.bind_eq_some_iff.mp H
    obtain ⟨t254, A100, H⟩ := H
    replace H : (if t254 = true then (if (l1.length : Int) > 40 then (oriellaw27_DiffTells.j2 kj3 a0 l1 a2 true) else (if x7_3 > 600 then (oriellaw27_DiffTells.j2 kj3 a0 l1 a2 true) else (oriellaw27_DiffTells.j2 kj3 a0 l1 a2 (decide ((a2.size : Int) > 500))))) else (oriellaw27_DiffTells.j2 kj3 a0 l1 a2 true)) = some r := H
    have A10 := Aside0.mk A100
    clear A100
    by_cases c11 : t254 = true
    ·subst c11
     have H1 : (if (l1.length : Int) > 40 then (oriellaw27_DiffTells.j2 kj3 a0 l1 a2 true) else (if x7_3 > 600 then (oriellaw27_DiffTells.j2 kj3 a0 l1 a2 true) else (oriellaw27_DiffTells.j2 kj3 a0 l1 a2 (decide ((a2.size : Int) > 500))))) = some r := by rw [if_pos rfl] at H; exact H
     clear H
     have H := H1
     clear H1
     by_cases c12 : (l1.length : Int) > 40
     ·rw [if_pos c12] at H
      have c12b0 : decide (40 < (l1.length : Int)) = true := decide_eq_true c12
      have c12b1 : decide (40 < l1.length) = true := decide_eq_true (by omega)
      clear c12
      (first | rw [c12b0] | (simp only [i64_w, i32_w]; rw [c12b0]) | skip)
      have H' := Aside0.mk H
      clear H
      go_wp2_with (first | ((with_reducible refine gate_callee (f := 8) rfl ?_); refine goesL_ (some 37) rfl rfl Tryd.func8 (by kernel_rfl) rfl #[.string a0] rfl (by (try simp only [List.map_toArray, List.map_cons, List.map_nil]); first | done | rfl | (simp only [List.length_drop, List.length_take]; rfl)) ?_; (with_reducible refine (oriellaw27_few.calls a0 true _ A10.out).mono ?_); rintro e w' ⟨rfl, ⟨nd, rfl⟩⟩; refine ⟨_, rfl, ?_⟩))
      go_meet
      case rel => exact ⟨_, (true), (by first | rfl | (simp; done) | (simp [*]; done)), H', ⟨by have := HJ3.out; first | omega | exact Nat.le_refl _⟩, ⟨by repeat (first | (with_reducible first | exact HB.out | apply below_alloc | apply pw_below_drewN | apply below_drew1) | exact HB.out)⟩⟩
     ·rw [if_neg c12] at H
      have c12b0 : decide (40 < (l1.length : Int)) = false := decide_eq_false c12
      have c12b1 : decide (40 < l1.length) = false := decide_eq_false (by omega)
      clear c12
      (first | rw [c12b0] | (simp only [i64_w, i32_w]; rw [c12b0]) | skip)
      by_cases c13 : x7_3 > 600
      ·rw [if_pos c13] at H
       have c13b0 : decide (600 < x7_3) = true := decide_eq_true c13
       clear c13
       have H' := Aside0.mk H
       clear H
       go_wp2_with (first | ((with_reducible refine gate_callee (f := 8) rfl ?_); refine goesL_ (some 37) rfl rfl Tryd.func8 (by kernel_rfl) rfl #[.string a0] rfl (by (try simp only [List.map_toArray, List.map_cons, List.map_nil]); first | done | rfl | (simp only [List.length_drop, List.length_take]; rfl)) ?_; (with_reducible refine (oriellaw27_few.calls a0 true _ A10.out).mono ?_); rintro e w' ⟨rfl, ⟨nd, rfl⟩⟩; refine ⟨_, rfl, ?_⟩))
       go_meet
       case rel => exact ⟨_, (true), (by first | rfl | (simp; done) | (simp [*]; done)), H', ⟨by have := HJ3.out; first | omega | exact Nat.le_refl _⟩, ⟨by repeat (first | (with_reducible first | exact HB.out | apply below_alloc | apply pw_below_drewN | apply below_drew1) | exact HB.out)⟩⟩
      ·rw [if_neg c13] at H
       have c13b0 : decide (600 < x7_3) = false := decide_eq_false c13
       clear c13
       have H' := Aside0.mk H
       clear H
       go_wp2_with (first | ((with_reducible refine gate_callee (f := 8) rfl ?_); refine goesL_ (some 37) rfl rfl Tryd.func8 (by kernel_rfl) rfl #[.string a0] rfl (by (try simp only [List.map_toArray, List.map_cons, List.map_nil]); first | done | rfl | (simp only [List.length_drop, List.length_take]; rfl)) ?_; (with_reducible refine (oriellaw27_few.calls a0 true _ A10.out).mono ?_); rintro e w' ⟨rfl, ⟨nd, rfl⟩⟩; refine ⟨_, rfl, ?_⟩))
       go_meet
       case rel => exact ⟨_, (decide ((a2.size : Int) > 500)), (by first | rfl | (simp; done) | (simp [*]; done)), H', ⟨by have := HJ3.out; first | omega | exact Nat.le_refl _⟩, ⟨by repeat (first | (with_reducible first | exact HB.out | apply below_alloc | apply pw_below_drewN | apply below_drew1) | exact HB.out)⟩⟩
    ·replace c11 := Bool.eq_false_iff.mpr c11
     subst c11
     have H1 : (oriellaw27_DiffTells.j2 kj3 a0 l1 a2 true) = some r := by rw [if_neg (show ¬ (false = true) by decide)] at H; exact H
     clear H
     have H := H1
     clear H1
     have H' := Aside0.mk H
     clear H
     go_wp2_with (first | ((with_reducible refine gate_callee (f := 8) rfl ?_); refine goesL_ (some 37) rfl rfl Tryd.func8 (by kernel_rfl) rfl #[.string a0] rfl (by (try simp only [List.map_toArray, List.map_cons, List.map_nil]); first | done | rfl | (simp only [List.length_drop, List.length_take]; rfl)) ?_; (with_reducible refine (oriellaw27_few.calls a0 false _ A10.out).mono ?_); rintro e w' ⟨rfl, ⟨nd, rfl⟩⟩; refine ⟨_, rfl, ?_⟩))
     go_meet
     case rel => exact ⟨_, (true), (by first | rfl | (simp; done) | (simp [*]; done)), H', ⟨by have := HJ3.out; first | omega | exact Nat.le_refl _⟩, ⟨by repeat (first | (with_reducible first | exact HB.out | apply below_alloc | apply pw_below_drewN | apply below_drew1) | exact HB.out)⟩⟩
   case rest =>
    clear HC9
    (try clear c1);(try clear p2);(try clear q2);(try clear hx2);(try clear c5);(try clear c5b0);(try clear c6);(try clear c6b0);(try clear p6);(try clear c7);(try clear c7b0);(try clear c8);(try clear c11);(try clear c12);(try clear c12b0);(try clear c12b1);(try clear c13);(try clear c13b0);(try clear hx253_0);(try clear hx253_1);(try clear hx253_2);(try clear p2);(try clear p253);(try clear p6);(try clear q2);(try clear q253)
    obtain ⟨kq, x52_8, rfl, HA, HJ8, HB⟩ := hcut
    cases kq with
    | zero => exact absurd HA.out (by simp [oriellaw27_DiffTells.j2])
    | succ kj8 =>
     have H := HA.out
     clear HA
     simp only [oriellaw27_DiffTells.j2] at H
     by_cases c14 : x52_8 = true
     ·subst c14
      have H1 : ((oriellaw27_alive.f kj8).bind fun t255 => (some t255)) = some r := by rw [if_pos rfl] at H; exact H
      clear H
      have H := H1
      clear H1
      replace H := Option.bind_eq_some_iff.mp H
      obtain ⟨t255, A150, H⟩ := H
      replace H : (some t255) = some r := H
      have A15 := Aside0.mk A150
      clear A150
      obtain rfl := Option.some.inj H
      go_wp2_with (first | ((with_reducible refine gate_callee (f := 9) rfl ?_); refine goesL_ (some 53) rfl rfl Tryd.func9 (by kernel_rfl) rfl #[] rfl (by (try simp only [List.map_toArray, List.map_cons, List.map_nil]); first | done | rfl | (simp only [List.length_drop, List.length_take]; rfl)) ?_; (with_reducible refine (oriellaw27_alive.calls kj8  t255 _ A15.out).mono ?_); rintro e w16 ⟨rfl, hb⟩; refine ⟨_, rfl, ?_⟩; have n0_ := Aside0.mk (below_step (by repeat (first | (with_reducible first | exact HB.out | apply below_alloc | apply pw_below_drewN | apply below_drew1) | exact HB.out)) hb); clear HB; have HB := n0_; clear n0_; (try clear hb); (try clear hb2); (try clear hk); (try clear hi)))
      go_ret
      exact ⟨by first | rfl | (simp [errW_none, errW_some] <;> rfl) | (simp [*, errW_none, errW_some] <;> rfl), by repeat (first | (with_reducible first | exact HB.out | apply below_alloc | apply pw_below_drewN | apply below_drew1) | exact HB.out)⟩
     ·replace c14 := Bool.eq_false_iff.mpr c14
      subst c14
      have H1 : ((diff_Tell.f kj8 a0 l1).bind fun bt256 => ((diff_Read.f kj8 a2).bind fun bt258 => ((orielref27_Read.f kj8 a2).bind fun bt262 => (if (bt258.2 != bt262.2) = true then (none) else ((orielref02_Same.f kj8 bt258.1 bt262.1).bind fun t266 => (if t266 = true then ((orielref02_Check.f kj8 (a0.size : Int) l1).bind fun t267 => (oriellaw27_DiffTells.j3 kj8 l1 bt256.1 bt256.2 (bt256.2 != t267))) else (none))))))) = some r := by rw [if_neg (show ¬ (false = true) by decide)] at H; exact H
      clear H
      have H := H1
      clear H1
      replace H := Option.bind_eq_some_iff.mp H
      obtain ⟨⟨t256, t257⟩, A170, H⟩ := H
      replace H : ((diff_Read.f kj8 a2).bind fun bt258 => ((orielref27_Read.f kj8 a2).bind fun bt262 => (if (bt258.2 != bt262.2) = true then (none) else ((orielref02_Same.f kj8 bt258.1 bt262.1).bind fun t266 => (if t266 = true then ((orielref02_Check.f kj8 (a0.size : Int) l1).bind fun t267 => (oriellaw27_DiffTells.j3 kj8 l1 t256 t257 (t257 != t267))) else (none)))))) = some r := H
      have A17 := Aside0.mk A170
      clear A170
      replace H := Option.bind_eq_some_iff.mp H
      obtain ⟨⟨t258, t259⟩, A180, H⟩ := H
      replace H : ((orielref27_Read.f kj8 a2).bind fun bt262 => (if (t259 != bt262.2) = true then (none) else ((orielref02_Same.f kj8 t258 bt262.1).bind fun t266 => (if t266 = true then ((orielref02_Check.f kj8 (a0.size : Int) l1).bind fun t267 => (oriellaw27_DiffTells.j3 kj8 l1 t256 t257 (t257 != t267))) else (none))))) = some r := H
      have A18 := Aside0.mk A180
      clear A180
      replace H := Option.bind_eq_some_iff.mp H
      obtain ⟨⟨t262, t263⟩, A190, H⟩ := H
      replace H : (if (t259 != t263) = true then (none) else ((orielref02_Same.f kj8 t258 t262).bind fun t266 => (if t266 = true then ((orielref02_Check.f kj8 (a0.size : Int) l1).bind fun t267 => (oriellaw27_DiffTells.j3 kj8 l1 t256 t257 (t257 != t267))) else (none)))) = some r := H
      have A19 := Aside0.mk A190
      clear A190
      have HC20 := Aside0.mk H
      clear H
      go_upto_region 11 with (first | ((with_reducible refine gate_callee (f := 25) rfl ?_); refine goesL_ (some 57) rfl rfl Tryd.func25 (by kernel_rfl) rfl #[.string a0, .slice A1 l1.length c1] rfl (by (try simp only [List.map_toArray, List.map_cons, List.map_nil]); first | done | rfl | (simp only [List.length_drop, List.length_take]; rfl)) ?_; (with_reducible refine (diff_Tell.calls kj8 a0 _ _ l1 t256 t257 _ ?side1 ?side2 ?sideT A17.out).mono ?_); (case sideT => first | exact HT.out | exact PowW.below HT.out (by repeat (first | (with_reducible first | exact HB.out | apply below_alloc | apply pw_below_drewN | apply below_drew1) | exact HB.out))); (case side1 => repeat (first | exact (Kd.C_below HR1.out HB.out) | (with_reducible refine Kd.C_alloc ?_ _) | (with_reducible refine Kd.C_drewN ?_ _) | (with_reducible refine Kd.C_drew ?_))); (case side2 => exact HC1.out); rintro e w21 ⟨rfl, hb⟩; refine ⟨_, rfl, ?_⟩; have n0_ := Aside0.mk (below_step (by repeat (first | (with_reducible first | exact HB.out | apply below_alloc | apply pw_below_drewN | apply below_drew1) | exact HB.out)) hb); clear HB; have HB := n0_; clear n0_; (try clear hb); (try clear hb2); (try clear hk); (try clear hi)) | ((with_reducible refine gate_callee (f := 26) rfl ?_); refine goesL_ (some 62) rfl rfl Tryd.func26 (by kernel_rfl) rfl #[.string a2] rfl (by (try simp only [List.map_toArray, List.map_cons, List.map_nil]); first | done | rfl | (simp only [List.length_drop, List.length_take]; rfl)) ?_; (with_reducible refine (diff_Read.calls kj8 a2 t258 t259 _ A18.out).mono ?_); rintro e w22 ⟨v260, rfl, ho0, hb⟩; refine ⟨_, rfl, ?_⟩; have n0_ := Aside0.mk (Kd.R_lower ho0 (below_size (by repeat (first | (with_reducible first | exact HB.out | apply below_alloc | apply pw_below_drewN | apply below_drew1) | exact HB.out)))); have n1_ := Aside0.mk (below_step (by repeat (first | (with_reducible first | exact HB.out | apply below_alloc | apply pw_below_drewN | apply below_drew1) | exact HB.out)) hb); clear HB; have HO261 := n0_; have HB := n1_; clear n0_ n1_; (try clear hb); (try clear hb2); (try clear hk); (try clear hi); (try clear ho0)) | ((with_reducible refine gate_callee (f := 27) rfl ?_); refine goesL_ (some 67) rfl rfl Tryd.func27 (by kernel_rfl) rfl #[.string a2] rfl (by (try simp only [List.map_toArray, List.map_cons, List.map_nil]); first | done | rfl | (simp only [List.length_drop, List.length_take]; rfl)) ?_; (with_reducible refine (orielref27_Read.calls kj8 a2 t262 t263 _ A19.out).mono ?_); rintro e w23 ⟨v264, rfl, ho0, hb⟩; refine ⟨_, rfl, ?_⟩; have n0_ := Aside0.mk (Kd.R_elder' (by (with_reducible repeat (first | apply Kd.R_alloc | apply Kd.R_drewN | apply Kd.R_drew)); exact HO261.out) (Kd.R_base ho0) hb); have n1_ := Aside0.mk (Kd.R_lower (Kd.R_new' ho0 (Kd.R_lt (by (with_reducible repeat (first | apply Kd.R_alloc | apply Kd.R_drewN | apply Kd.R_drew)); exact HO261.out))) (below_size (by repeat (first | (with_reducible first | exact HB.out | apply below_alloc | apply pw_below_drewN | apply below_drew1) | exact HB.out)))); have n2_ := Aside0.mk (below_step (by repeat (first | (with_reducible first | exact HB.out | apply below_alloc | apply pw_below_drewN | apply below_drew1) | exact HB.out)) hb); clear HO261; clear HB; have HO261 := n0_; have HO265 := n1_; have HB := n2_; clear n0_ n1_ n2_; (try clear hb); (try clear hb2); (try clear hk); (try clear hi); (try clear ho0)))
      (try simp only [Act.put, List.setIfInBounds_toArray, List.set_cons_zero, List.set_cons_succ])
      go_cut [86] (fun v86 wc => ∃ (kq : Nat) (x86_19 : Bool), v86 = .bool x86_19 ∧ Aside0 (oriellaw27_DiffTells.j3 kq l1 t256 t257 x86_19 = some r) ∧ Aside0 (kq ≤ kj8) ∧ Aside0 (Below w.heap.size w wc))
      case first =>
       have H := HC20.out
       clear HC20
       by_cases c24 : (t259 != t263) = true
       ·rw [if_pos c24] at H
        exact absurd H (by simp)
       ·rw [if_neg c24] at H
        have c24b0 : (t259 != t263) = false := by simpa using c24
        (try (have c24b1 : decide (t259 = t263) = true := by simpa using c24))
        (try (have c24b2 : (t259 == t263) = true := by simpa using c24))
        clear c24
        (first | rw [c24b0] | (simp only [i64_w, i32_w]; rw [c24b0]) | skip)
        replace H := Option.bind_eq_some_iff.mp H
        obtain ⟨t266, A250, H⟩ := H
        replace H : (if t266 = true then ((orielref02_Check.f kj8 (a0.size : Int) l1).bind fun t267 => (oriellaw27_DiffTells.j3 kj8 l1 t256 t257 (t257 != t267))) else (none)) = some r := H
        have A25 := Aside0.mk A250
        clear A250
        by_cases c26 : t266 = true
        ·subst c26
         have H1 : ((orielref02_Check.f kj8 (a0.size : Int) l1).bind fun t267 => (oriellaw27_DiffTells.j3 kj8 l1 t256 t257 (t257 != t267))) = some r := by rw [if_pos rfl] at H; exact H
         clear H
         have H := H1
         clear H1
         replace H := Option.bind_eq_some_iff.mp H
         obtain ⟨t267, A270, H⟩ := H
         replace H : (oriellaw27_DiffTells.j3 kj8 l1 t256 t257 (t257 != t267)) = some r := H
         have A27 := Aside0.mk A270
         clear A270
         have H' := Aside0.mk H
         clear H
         obtain ⟨Ao28, co28, eo28⟩ := Kd.R_slice HO261.out
         subst eo28
         obtain ⟨Ao29, co29, eo29⟩ := Kd.R_slice HO265.out
         subst eo29
         go_wp2_with (first | (go_at_call 16; (with_reducible refine (orielref02_Same.calls kj8 _ _ t258 _ _ t262 true _ ?side1 ?side2 ?side3 ?side4 A25.out).mono ?_); (case side1 => repeat (first | exact (Kd.R_reads' HO261.out).2.2 | (with_reducible refine Kd.C_alloc ?_ _) | (with_reducible refine Kd.C_drewN ?_ _) | (with_reducible refine Kd.C_drew ?_))); (case side2 => exact (Kd.R_reads' HO261.out).2.1); (case side3 => repeat (first | exact (Kd.R_reads' HO265.out).2.2 | (with_reducible refine Kd.C_alloc ?_ _) | (with_reducible refine Kd.C_drewN ?_ _) | (with_reducible refine Kd.C_drew ?_))); (case side4 => exact (Kd.R_reads' HO265.out).2.1); rintro e w' ⟨rfl, ⟨nd, rfl⟩⟩) | (go_at_call 28; (with_reducible refine (orielref02_Check.calls kj8 (a0.size : Int) _ _ l1 t267 _ ?side1 ?side2 A27.out).mono ?_); (case side1 => repeat (first | exact (Kd.C_below HR1.out (by repeat (first | (with_reducible first | exact HB.out | apply below_alloc | apply pw_below_drewN | apply below_drew1) | exact HB.out))) | (with_reducible refine Kd.C_alloc ?_ _) | (with_reducible refine Kd.C_drewN ?_ _) | (with_reducible refine Kd.C_drew ?_))); (case side2 => exact HC1.out); rintro e w' ⟨rfl, ⟨nd, rfl⟩⟩))
         go_meet
         case rel => exact ⟨_, ((t257 != t267)), (by first | rfl | (simp; done) | (simp [*]; done)), H', ⟨by have := HJ3.out; have := HJ8.out; first | omega | exact Nat.le_refl _⟩, ⟨by repeat (first | (with_reducible first | exact HB.out | apply below_alloc | apply pw_below_drewN | apply below_drew1) | exact HB.out)⟩⟩
        ·replace c26 := Bool.eq_false_iff.mpr c26
         subst c26
         have H1 : (none) = some r := by rw [if_neg (show ¬ (false = true) by decide)] at H; exact H
         clear H
         have H := H1
         clear H1
         exact absurd H (by simp)
      case rest =>
       clear HC20
       (try clear c1);(try clear c2);(try clear p2);(try clear q2);(try clear hx2);(try clear c5);(try clear c5b0);(try clear c6);(try clear c6b0);(try clear p6);(try clear c7);(try clear c7b0);(try clear c8);(try clear c9);(try clear c11);(try clear c12);(try clear c12b0);(try clear c12b1);(try clear c13);(try clear c13b0);(try clear c14);(try clear c24);(try clear c24b0);(try clear c24b1);(try clear c24b2);(try clear c25);(try clear p25);(try clear q25);(try clear hx25);(try clear c26);(try clear c27);(try clear hx253_0);(try clear hx253_1);(try clear hx253_2);(try clear p2);(try clear p253);(try clear p6);(try clear q2);(try clear q253)
       obtain ⟨kq, x86_19, rfl, HA, HJ19, HB⟩ := hcut
       cases kq with
       | zero => exact absurd HA.out (by simp [oriellaw27_DiffTells.j3])
       | succ kj19 =>
        have H := HA.out
        clear HA
        simp only [oriellaw27_DiffTells.j3] at H
        by_cases c30 : x86_19 = true
        ·subst c30
         have H1 : (none) = some r := by rw [if_pos rfl] at H; exact H
         clear H
         have H := H1
         clear H1
         exact absurd H (by simp)
        ·replace c30 := Bool.eq_false_iff.mpr c30
         subst c30
         have H1 : (if t257 = 0 then ((diff_Read.f kj19 t256).bind fun bt269 => ((orielref27_Tell.f kj19 l1).bind fun t273 => (if t256.toList = t273.toList then (if bt269.2 = true then ((orielref02_Same.f kj19 bt269.1 l1).bind fun t274 => (if t274 = true then ((oriellaw27_alive.f kj19).bind fun t275 => (some t275)) else (none))) else (none)) else (none)))) else (if t256.toList = ([] : List UInt8) then ((oriellaw27_alive.f kj19).bind fun t268 => (some t268)) else (none))) = some r := by rw [if_neg (show ¬ (false = true) by decide)] at H; exact H
         clear H
         have H := H1
         clear H1
         by_cases c31 : t257 = 0
         ·rw [if_pos c31] at H
          have c31b0 : (t257 == 0) = true := beq_iff_eq.mpr c31
          have c31b1 : (t257 != 0) = false := bne_eq_false_iff_eq.mpr c31
          clear c31
          replace H := Option.bind_eq_some_iff.mp H
          obtain ⟨⟨t269, t270⟩, A320, H⟩ := H
          replace H : ((orielref27_Tell.f kj19 l1).bind fun t273 => (if t256.toList = t273.toList then (if t270 = true then ((orielref02_Same.f kj19 t269 l1).bind fun t274 => (if t274 = true then ((oriellaw27_alive.f kj19).bind fun t275 => (some t275)) else (none))) else (none)) else (none))) = some r := H
          have A32 := Aside0.mk A320
          clear A320
          replace H := Option.bind_eq_some_iff.mp H
          obtain ⟨t273, A330, H⟩ := H
          replace H : (if t256.toList = t273.toList then (if t270 = true then ((orielref02_Same.f kj19 t269 l1).bind fun t274 => (if t274 = true then ((oriellaw27_alive.f kj19).bind fun t275 => (some t275)) else (none))) else (none)) else (none)) = some r := H
          have A33 := Aside0.mk A330
          clear A330
          by_cases c34 : t256.toList = t273.toList
          ·rw [if_pos c34] at H
           have c34b0 : (t256.toList == t273.toList) = true := beq_iff_eq.mpr c34
           have c34b1 : (t256.toList != t273.toList) = false := bne_eq_false_iff_eq.mpr c34
           clear c34
           by_cases c35 : t270 = true
           ·subst c35
            have H1 : ((orielref02_Same.f kj19 t269 l1).bind fun t274 => (if t274 = true then ((oriellaw27_alive.f kj19).bind fun t275 => (some t275)) else (none))) = some r := by rw [if_pos rfl] at H; exact H
            clear H
            have H := H1
            clear H1
            replace H := Option.bind_eq_some_iff.mp H
            obtain ⟨t274, A360, H⟩ := H
            replace H : (if t274 = true then ((oriellaw27_alive.f kj19).bind fun t275 => (some t275)) else (none)) = some r := H
            have A36 := Aside0.mk A360
            clear A360
            by_cases c37 : t274 = true
            ·subst c37
             have H1 : ((oriellaw27_alive.f kj19).bind fun t275 => (some t275)) = some r := by rw [if_pos rfl] at H; exact H
             clear H
             have H := H1
             clear H1
             replace H := Option.bind_eq_some_iff.mp H
             obtain ⟨t275, A380, H⟩ := H
             replace H : (some t275) = some r := H
             have A38 := Aside0.mk A380
             clear A380
             obtain rfl := Option.some.inj H
             go_wp2_with (first | ((with_reducible refine gate_callee (f := 26) rfl ?_); refine goesL_ (some 96) rfl rfl Tryd.func26 (by kernel_rfl) rfl #[.string t256] rfl (by (try simp only [List.map_toArray, List.map_cons, List.map_nil]); first | done | rfl | (simp only [List.length_drop, List.length_take]; rfl)) ?_; (with_reducible refine (diff_Read.calls kj19 t256 t269 true _ A32.out).mono ?_); rintro e w39 ⟨v271, rfl, ho0, hb⟩; refine ⟨_, rfl, ?_⟩; have n0_ := Aside0.mk (Kd.R_lower ho0 (below_size (by repeat (first | (with_reducible first | exact HB.out | apply below_alloc | apply pw_below_drewN | apply below_drew1) | exact HB.out)))); have n1_ := Aside0.mk (below_step (by repeat (first | (with_reducible first | exact HB.out | apply below_alloc | apply pw_below_drewN | apply below_drew1) | exact HB.out)) hb); clear HB; have HO272 := n0_; have HB := n1_; clear n0_ n1_; (try clear hb); (try clear hb2); (try clear hk); (try clear hi); (try clear ho0)) | ((with_reducible refine gate_callee (f := 29) rfl ?_); refine goesL_ (some 101) rfl rfl Tryd.func29 (by kernel_rfl) rfl #[.slice A1 l1.length c1] rfl (by (try simp only [List.map_toArray, List.map_cons, List.map_nil]); first | done | rfl | (simp only [List.length_drop, List.length_take]; rfl)) ?_; (with_reducible refine (orielref27_Tell.calls kj19 _ _ l1 t273 _ ?side1 ?side2 A33.out).mono ?_); (case side1 => repeat (first | exact (Kd.C_below HR1.out HB.out) | (with_reducible refine Kd.C_alloc ?_ _) | (with_reducible refine Kd.C_drewN ?_ _) | (with_reducible refine Kd.C_drew ?_))); (case side2 => exact HC1.out); rintro e w40 ⟨rfl, hb⟩; refine ⟨_, rfl, ?_⟩; have n0_ := Aside0.mk (Kd.R_below (by (with_reducible repeat (first | apply Kd.R_alloc | apply Kd.R_drewN | apply Kd.R_drew)); exact HO272.out) hb); have n1_ := Aside0.mk (below_step (by repeat (first | (with_reducible first | exact HB.out | apply below_alloc | apply pw_below_drewN | apply below_drew1) | exact HB.out)) hb); clear HO272; clear HB; have HO272 := n0_; have HB := n1_; clear n0_ n1_; (try clear hb); (try clear hb2); (try clear hk); (try clear hi); obtain ⟨Ao41, co41, eo41⟩ := Kd.R_slice HO272.out; subst eo41) | (go_at_call 16; (with_reducible refine (orielref02_Same.calls kj19 _ _ t269 _ _ l1 true _ ?side1 ?side2 ?side3 ?side4 A36.out).mono ?_); (case side1 => repeat (first | exact (Kd.R_reads' HO272.out).2.2 | (with_reducible refine Kd.C_alloc ?_ _) | (with_reducible refine Kd.C_drewN ?_ _) | (with_reducible refine Kd.C_drew ?_))); (case side2 => exact (Kd.R_reads' HO272.out).2.1); (case side3 => repeat (first | exact (Kd.C_below HR1.out HB.out) | (with_reducible refine Kd.C_alloc ?_ _) | (with_reducible refine Kd.C_drewN ?_ _) | (with_reducible refine Kd.C_drew ?_))); (case side4 => exact HC1.out); rintro e w' ⟨rfl, ⟨nd, rfl⟩⟩) | (go_at_call 9; (with_reducible refine (oriellaw27_alive.calls kj19  t275 _ A38.out).mono ?_); rintro e w42 ⟨rfl, hb⟩; have n0_ := Aside0.mk (Kd.R_below (by (with_reducible repeat (first | apply Kd.R_alloc | apply Kd.R_drewN | apply Kd.R_drew)); exact HO272.out) hb); have n1_ := Aside0.mk (below_step (by repeat (first | (with_reducible first | exact HB.out | apply below_alloc | apply pw_below_drewN | apply below_drew1) | exact HB.out)) hb); clear HO272; clear HB; have HO272 := n0_; have HB := n1_; clear n0_ n1_; (try clear hb); (try clear hb2); (try clear hk); (try clear hi)))
             go_ret
             exact ⟨by first | rfl | (simp [errW_none, errW_some] <;> rfl) | (simp [*, errW_none, errW_some] <;> rfl), by repeat (first | (with_reducible first | exact HB.out | apply below_alloc | apply pw_below_drewN | apply below_drew1) | exact HB.out)⟩
            ·replace c37 := Bool.eq_false_iff.mpr c37
             subst c37
             have H1 : (none) = some r := by rw [if_neg (show ¬ (false = true) by decide)] at H; exact H
             clear H
             have H := H1
             clear H1
             exact absurd H (by simp)
           ·replace c35 := Bool.eq_false_iff.mpr c35
            subst c35
            have H1 : (none) = some r := by rw [if_neg (show ¬ (false = true) by decide)] at H; exact H
            clear H
            have H := H1
            clear H1
            exact absurd H (by simp)
          ·rw [if_neg c34] at H
           exact absurd H (by simp)
         ·rw [if_neg c31] at H
          have c31b0 : (t257 == 0) = false := beq_eq_false_iff_ne.mpr c31
          have c31b1 : (t257 != 0) = true := bne_iff_ne.mpr c31
          by_cases c43 : t256.toList = ([] : List UInt8)
          ·rw [if_pos c43] at H
           have c43b0 : (t256.toList == ([] : List UInt8)) = true := beq_iff_eq.mpr c43
           have c43b1 : (t256.toList != ([] : List UInt8)) = false := bne_eq_false_iff_eq.mpr c43
           clear c43
           replace H := Option.bind_eq_some_iff.mp H
           obtain ⟨t268, A440, H⟩ := H
           replace H : (some t268) = some r := H
           have A44 := Aside0.mk A440
           clear A440
           obtain rfl := Option.some.inj H
           go_wp2_with (first | (go_at_call 9; (with_reducible refine (oriellaw27_alive.calls kj19  t268 _ A44.out).mono ?_); rintro e w45 ⟨rfl, hb⟩; have n0_ := Aside0.mk (below_step (by repeat (first | (with_reducible first | exact HB.out | apply below_alloc | apply pw_below_drewN | apply below_drew1) | exact HB.out)) hb); clear HB; have HB := n0_; clear n0_; (try clear hb); (try clear hb2); (try clear hk); (try clear hi)))
           go_ret
           exact ⟨by first | rfl | (simp [errW_none, errW_some] <;> rfl) | (simp [*, errW_none, errW_some] <;> rfl), by repeat (first | (with_reducible first | exact HB.out | apply below_alloc | apply pw_below_drewN | apply below_drew1) | exact HB.out)⟩
          ·rw [if_neg c43] at H
           exact absurd H (by simp)
end Go.Proofs.YtnemooemifbbhaaDoor.PDT
