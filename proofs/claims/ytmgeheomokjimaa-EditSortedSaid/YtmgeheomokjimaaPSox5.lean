-- Written by ownprint.py, a program of this session (out of the kit's print, with contracts of the session's own).
import Derived.Test.YtmgeheomokjimaaPSox0
import Derived.Test.YtmgeheomokjimaaPSox4
namespace Go.Proofs.Ytmgeheomokjimaa.PSo
open Go.RowKit Go.Proofs.YtmgeheomokjimaaW.PrintWords Go.Proofs.YtmgeheomokjimaaW.PrintLast Go.Proofs.YtmgeheomokjimaaW.PrintMore
attribute [local go_sem] max2_int min2_int max_two min_two max_three min_three max_four min_four   -- for this text's walks alone
set_option linter.unusedVariables false
set_option linter.unusedSimpArgs false
def pairIdx : List S45 → Int → Int → Int
 | [], _, _ => -1
 | p :: r, at_, i => if p.f0 ≤ at_ ∧ at_ < p.f1 then i else pairIdx r at_ (i + 1)
def edit_Map.g (kept : List S45) (tl : List Int) (at_ : Int) : Option (Int × Bool) :=
 if pairIdx kept at_ 0 < 0 then some (0, false) else
  if pairIdx kept at_ 0 < tl.length then some (wrap64 (wrap64 (rd tl (pairIdx kept at_ 0) + at_) - (rd_T45 kept (pairIdx kept at_ 0)).f0), true) else none
def edit_Map.f (k : Nat) (a0 a1 : Int) (l2 : List S47) : Option (Int × Bool) :=
 (edit_Kept.f k a0 l2).bind fun t => edit_Map.g t.1 t.2.1 a1
theorem edit_Map.mono : ∀ a0 a1 a2 k, LeO (edit_Map.f k a0 a1 a2) (edit_Map.f (k + 1) a0 a1 a2) := by
 intro a0 a1 a2 k
 unfold edit_Map.f
 exact LeO.bind (edit_Kept.mono _ _ _) (fun _ => LeO.refl _)
theorem pairIdx_cons (p : S45) (r : List S45) (at_ i : Int) : pairIdx (p :: r) at_ i = if p.f0 ≤ at_ ∧ at_ < p.f1 then i else pairIdx r at_ (i + 1) := rfl
theorem pairIdx_range (l : List S45) (at_ i : Int) : pairIdx l at_ i = -1 ∨ i ≤ pairIdx l at_ i ∧ pairIdx l at_ i < i + l.length := by
 induction l generalizing i with
 | nil => left; rfl
 | cons p r ih =>
  unfold pairIdx
  split
  ·right; simp only [List.length_cons]; omega
  ·rcases ih (i + 1) with h | h
   ·left; exact h
   ·right; simp only [List.length_cons]; omega
theorem drop_rd_P (l : List S45) (x : Int) (h0 : 0 ≤ x) (h : x < l.length) : l.drop x.toNat = rd_T45 l x :: l.drop (x + 1).toNat := by
 have hx : x.toNat < l.length := by omega
 rw [List.drop_eq_getElem_cons hx, show (x + 1).toNat = x.toNat + 1 by omega]
 unfold rd_T45
 rw [List.getD_eq_getElem?_getD, List.getElem?_eq_getElem hx]
 rfl
set_option maxHeartbeats 8000000 in
set_option maxRecDepth 100000 in
theorem pairIn_yes (a b at_ : Int) (gX : Nat) (w : World) (hb : w.heap[gX]? = some (.cells #[.int .i64 at_] 3 (0, 0))) (h1 : a ≤ at_) (h2 : at_ < b) :
  Calls Try.prog 29 #[.agg #[.int .i64 a, .int .i64 b], .pointer (some ⟨gX, 0, none⟩)] w fun e w' => e = .returned (.bool true) ∧ Below w.heap.size w w' := by
 have hu := Try.underlying45
 have hlt := blk_lt hb
 have hc : (w.alloc (.cells #[.int .i64 a, .int .i64 b] 45)).cell? ⟨gX, 0, none⟩ = some (.int .i64 at_) := (blk_cell (blk_alloc hb _) 0).trans rfl
 have h3 : decide (a ≤ at_) = true := decide_eq_true h1
 have h4 : decide (at_ < b) = true := decide_eq_true h2
 go_enter Try.func29, Try.ntmps29
 go_wp2
 go_ret
 exact ⟨by simp [*], below_alloc (Below.refl _ _) _⟩
set_option maxHeartbeats 8000000 in
set_option maxRecDepth 100000 in
theorem pairIn_no1 (a b at_ : Int) (gX : Nat) (w : World) (hb : w.heap[gX]? = some (.cells #[.int .i64 at_] 3 (0, 0))) (h1 : ¬ a ≤ at_) :
  Calls Try.prog 29 #[.agg #[.int .i64 a, .int .i64 b], .pointer (some ⟨gX, 0, none⟩)] w fun e w' => e = .returned (.bool false) ∧ Below w.heap.size w w' := by
 have hu := Try.underlying45
 have hlt := blk_lt hb
 have hc : (w.alloc (.cells #[.int .i64 a, .int .i64 b] 45)).cell? ⟨gX, 0, none⟩ = some (.int .i64 at_) := (blk_cell (blk_alloc hb _) 0).trans rfl
 have h3 : decide (a ≤ at_) = false := decide_eq_false h1
 go_enter Try.func29, Try.ntmps29
 go_wp2
 go_ret
 exact ⟨by simp [*], below_alloc (Below.refl _ _) _⟩
set_option maxHeartbeats 8000000 in
set_option maxRecDepth 100000 in
theorem pairIn_no2 (a b at_ : Int) (gX : Nat) (w : World) (hb : w.heap[gX]? = some (.cells #[.int .i64 at_] 3 (0, 0))) (h1 : a ≤ at_) (h2 : ¬ at_ < b) :
  Calls Try.prog 29 #[.agg #[.int .i64 a, .int .i64 b], .pointer (some ⟨gX, 0, none⟩)] w fun e w' => e = .returned (.bool false) ∧ Below w.heap.size w w' := by
 have hu := Try.underlying45
 have hlt := blk_lt hb
 have hc : (w.alloc (.cells #[.int .i64 a, .int .i64 b] 45)).cell? ⟨gX, 0, none⟩ = some (.int .i64 at_) := (blk_cell (blk_alloc hb _) 0).trans rfl
 have h3 : decide (a ≤ at_) = true := decide_eq_true h1
 have h4 : decide (at_ < b) = false := decide_eq_false h2
 go_enter Try.func29, Try.ntmps29
 go_wp2
 go_ret
 exact ⟨by simp [*], below_alloc (Below.refl _ _) _⟩
theorem pairIn_any (a b at_ : Int) (gX : Nat) (w : World) (hb : w.heap[gX]? = some (.cells #[.int .i64 at_] 3 (0, 0))) (r : Bool) (hr : decide (a ≤ at_ ∧ at_ < b) = r) :
  Calls Try.prog 29 #[.agg #[.int .i64 a, .int .i64 b], .pointer (some ⟨gX, 0, none⟩)] w fun e w' => e = .returned (.bool r) ∧ Below w.heap.size w w' := by
 by_cases h1 : a ≤ at_
 ·by_cases h2 : at_ < b
  ·rw [decide_eq_true ⟨h1, h2⟩] at hr
   subst hr
   exact pairIn_yes a b at_ gX w hb h1 h2
  ·rw [decide_eq_false (fun h => h2 h.2)] at hr
   subst hr
   exact pairIn_no2 a b at_ gX w hb h1 h2
 ·rw [decide_eq_false (fun h => h1 h.1)] at hr
  subst hr
  exact pairIn_no1 a b at_ gX w hb h1
set_option maxHeartbeats 8000000 in
set_option maxRecDepth 100000 in
theorem pairIdx_calls (at_ : Int) (gX : Nat) (w : World) (A : Option Addr) (c : Nat) (l : List S45) (hb : w.heap[gX]? = some (.cells #[.int .i64 at_] 3 (0, 0))) (hC : Kd.C k45 w A l.length l) :
  Calls Try.prog 28 #[.slice A l.length c, .func (.func 29) #[] #[.pointer (some ⟨gX, 0, none⟩)]] w fun e w' => e = .returned (.int .i64 (pairIdx l at_ 0)) ∧ Below w.heap.size w w' := by
 have hm : l.length ≤ 9223372036854775807 := hC.2.1
 have HC := Aside0.mk hC
 have HB := Aside0.mk hb
 clear hC hb
 have hu := Try.underlying45
 go_enter Try.func28, Try.ntmps28
 go_wp2_with fail
 go_loopw [8] (fun i wr => ∃ x : Int, i = .int .i64 x ∧ 0 ≤ x ∧ x ≤ l.length ∧ Aside0 (pairIdx l at_ 0 = pairIdx (l.drop x.toNat) at_ x) ∧ Aside0 (Below w.heap.size w wr)) (fun i _ => l.length - (intOf i).toNat)
 case atStart => exact ⟨0, rfl, by omega, by omega, ⟨rfl⟩, ⟨Below.refl _ _⟩⟩
 case round =>
  obtain ⟨x, rfl, hx0, hx1, HG, HBL⟩ := hrel
  by_cases hlt : x < l.length
  ·obtain ⟨ad, e, hy0, hy1⟩ := at_T45 HC.out x hx0 hlt
   cases e
   replace hy0 := (HBL.out.cell (World.block_lt_of_cell? w _ hy0)).trans hy0
   replace hy1 := (HBL.out.cell (World.block_lt_of_cell? w _ hy1)).trans hy1
   have HBX := Aside0.mk (blk_below HB.out HBL.out)
   have p1 := eq_true hx0
   have q1 := eq_true hlt
   have hg := HG.out
   rw [drop_rd_P l x hx0 hlt, pairIdx_cons] at hg
   clear HG
   by_cases hin : (rd_T45 l x).f0 ≤ at_ ∧ at_ < (rd_T45 l x).f1
   ·rw [if_pos hin] at hg
    have HG := Aside0.mk hg
    have HI := Aside0.mk (decide_eq_true hin)
    clear hg hin
    go_wp2_with (go_at_call 29; refine (pairIn_any _ _ at_ gX _ HBX.out true HI.out).mono ?_; rintro e w2 ⟨rfl, hb2⟩)
    go_ret
    exact ⟨congrArg (fun z => Ending.returned (.int .i64 z)) HG.out.symm, below_step HBL.out (by assumption)⟩
   ·rw [if_neg hin] at hg
    have HG := Aside0.mk hg
    have HI := Aside0.mk (decide_eq_false hin)
    clear hg hin
    go_wp2_with (go_at_call 29; refine (pairIn_any _ _ at_ gX _ HBX.out false HI.out).mono ?_; rintro e w2 ⟨rfl, hb2⟩)
    go_roundw
    case rel => exact ⟨x + 1, rfl, by omega, by omega, HG, ⟨below_step HBL.out (by assumption)⟩⟩
    case measure => simp [intOf]; omega
  ·have hxe : x = l.length := by omega
   subst hxe
   go_wp2_with fail
   go_ret
   have hg := HG.out
   rw [show ((l.length : Int)).toNat = l.length by omega, List.drop_length] at hg
   exact ⟨congrArg (fun z => Ending.returned (.int .i64 z)) hg.symm, HBL.out⟩
set_option maxHeartbeats 8000000 in
set_option maxRecDepth 100000 in
theorem edit_Map.calls (k : Nat) (a0 a1 : Int) (A2 : Option Addr) (c2 : Nat) (l2 : List S47) (r1 : Int) (r2 : Bool) (w : World) (hr2 : Kd.C k47 w A2 l2.length l2) (hc2 : l2.length ≤ c2) (h : edit_Map.f k a0 a1 l2 = some (r1, r2)) :
  Calls Try.prog 13 #[.int .i64 a0, .int .i64 a1, .slice A2 l2.length c2] w fun e w' => e = .returned (.tuple #[.int .i64 r1, .bool r2]) ∧ Below w.heap.size w w' := by
 unfold edit_Map.f at h
 replace h := Option.bind_eq_some_iff.mp h
 obtain ⟨⟨kept, tl, t⟩, hA, h⟩ := h
 have HA := Aside0.mk hA
 have HR := Aside0.mk hr2
 have HC := Aside0.mk hc2
 have HF := Aside0.mk h
 clear hA hr2 hc2 h
 have hu := Try.underlying45
 go_enter Try.func13, Try.ntmps13
 go_wp2_with fail
 have HBX := Aside0.mk (blk_new w (.cells #[.int .i64 a1] 3))
 have HBL := Aside0.mk (below_alloc (Below.refl w.heap.size w) (.cells #[.int .i64 a1] 3))
 have HR2 := Aside0.mk (Kd.C_alloc HR.out (.cells #[.int .i64 a1] 3))
 generalize (w.alloc (.cells #[.int .i64 a1] 3)) = w1 at HBX HBL HR2 ⊢
 generalize hgX : w.heap.size = gX at HBX ⊢
 have HgX := Aside0.mk hgX
 clear hgX
 refine (edit_Kept.calls k a0 _ _ l2 kept tl t w1 HR2.out HC.out HA.out).mono ?_
 rintro e w2 ⟨v0, v1, rfl, ho, ht, hb⟩
 obtain ⟨A3, c3, rfl, hl3, hC3⟩ := Kd.R_reads ho
 obtain ⟨A4, c4, rfl, hl4, hC4⟩ := Kd.R_reads ht
 have HBX2 := Aside0.mk (blk_below HBX.out hb)
 have HBL2 := Aside0.mk (below_step HBL.out hb)
 have HC3 := Aside0.mk hC3
 have HC4 := Aside0.mk hC4
 have hm3 : kept.length ≤ 9223372036854775807 := hC3.2.1
 have hm4 : tl.length ≤ 9223372036854775807 := hC4.2.1
 clear ho ht hb hC3 hC4
 go_wp2_with fail
 refine (pairIdx_calls a1 gX w2 A3 c3 kept HBX2.out HC3.out).mono ?_
 rintro e w3 ⟨rfl, hb⟩
 have HBX3 := Aside0.mk (blk_below HBX2.out hb)
 have HBL3 := Aside0.mk (below_step HBL2.out hb)
 have HD3 := Aside0.mk (Kd.C_below HC3.out hb)
 have HD4 := Aside0.mk (Kd.C_below HC4.out hb)
 clear hb
 have hF := HF.out
 unfold edit_Map.g at hF
 have hR := pairIdx_range kept a1 0
 generalize pairIdx kept a1 0 = x at hF hR ⊢
 by_cases c : x < 0
 ·rw [if_pos c] at hF
  obtain ⟨rfl, rfl⟩ := Prod.mk.inj (Option.some.inj hF)
  clear hF HF
  go_wp2_with fail
  go_ret2
  exact ⟨rfl, HBL3.out⟩
 ·rw [if_neg c] at hF
  have h0 : 0 ≤ x := by omega
  have h1 : x < kept.length := by omega
  by_cases c5 : x < tl.length
  ·rw [if_pos c5] at hF
   obtain ⟨rfl, rfl⟩ := Prod.mk.inj (Option.some.inj hF)
   clear hF HF hR
   obtain ⟨ad, e, hy0, hy1⟩ := at_T45 HD3.out x h0 h1
   cases e
   obtain ⟨ad2, e, hy2⟩ := Kd.at_int HD4.out x h0 c5
   cases e
   have hz : w3.cell? ⟨gX, 0, none⟩ = some (.int .i64 a1) := (blk_cell HBX3.out 0).trans rfl
   have c0b := c
   have p1 := eq_true h0
   have q1 := eq_true h1
   have q2 := eq_true c5
   have d1 : decide (0 ≤ x) = true := decide_eq_true h0
   have d2 : decide (x < (kept.length : Int)) = true := decide_eq_true h1
   have d3 : decide (x < (tl.length : Int)) = true := decide_eq_true c5
   go_wp2_with fail
   repeat (go_quiet (fail); try go_wp2)
   go_ret2
   exact ⟨by first | rfl | simp, pw_below_drewN HBL3.out _⟩
  ·rw [if_neg c5] at hF
   cases hF
end Go.Proofs.Ytmgeheomokjimaa.PSo
