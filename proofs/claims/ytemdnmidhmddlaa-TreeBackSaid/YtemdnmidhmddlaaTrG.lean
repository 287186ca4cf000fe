/- Right, walked. Conditions: as the theorems say. -/
import Derived.Test.YtemdnmidhmddlaaTrC
namespace Go.Proofs.Ytemdnmidhmddlaa.Tree
open Go Go.RowKit Go.Proofs.YtemdnmidhmddlaaW.PrintWords Go.Proofs.YtemdnmidhmddlaaW.PrintLast Go.Proofs.YtemdnmidhmddlaaW.PrintMore Go.Proofs.Ytemdnmidhmddlaa.PAll
set_option linter.unusedVariables false
set_option linter.unusedSimpArgs false
def outB (lo hi n : Int) : Bool := decide (n < lo) || decide (n ≥ hi)
set_option maxHeartbeats 8000000 in
set_option maxRecDepth 100000 in
theorem out_ (n : Int) (g : Nat) (v0 v1 v4 v5 : Value) (lo hi : Int) (w : World) (hb : w.heap[g]? = some (.cells #[v0, v1, .int .i64 lo, .int .i64 hi, v4, v5] 25 (0, 0))) :
  Calls Try.prog 39 #[.int .i64 n, .pointer (some ⟨g, 0, none⟩)] w fun e w' => e = .returned (.bool (outB lo hi n)) ∧ w' = w := by
 have x2 : w.cell? ⟨g, 2, none⟩ = some (.int .i64 lo) := (blk_cell hb 2).trans rfl
 have x3 : w.cell? ⟨g, 3, none⟩ = some (.int .i64 hi) := (blk_cell hb 3).trans rfl
 have EO : Aside0 (outB lo hi n = (decide (n < lo) || decide (n ≥ hi))) := ⟨rfl⟩
 clear hb
 by_cases c : n < lo
 ·have d : decide (n < lo) = true := decide_eq_true c
  go_enter Try.func39, Try.ntmps39
  go_wp2
  go_ret
  exact ⟨by first | rfl | (rw [EO.out, d, Bool.true_or]; rfl), rfl⟩
 ·have d : decide (n < lo) = false := decide_eq_false c
  go_enter Try.func39, Try.ntmps39
  go_wp2
  go_ret
  exact ⟨by first | rfl | (rw [EO.out, d, Bool.false_or]; rfl), rfl⟩
def firstO (lo hi : Int) : List Int → Nat → Int
 | [], _ => -1
 | n :: r, i => if outB lo hi n = true then (i : Int) else firstO lo hi r (i + 1)
theorem firstO_any (lo hi : Int) : ∀ (l : List Int) (i : Nat), decide (firstO lo hi l i ≥ 0) = l.any (outB lo hi)
 | [], _ => rfl
 | n :: r, i => by
  rw [firstO, List.any_cons]
  by_cases c : outB lo hi n = true
  ·rw [if_pos c, c, Bool.true_or]
   exact decide_eq_true (by omega)
  ·rw [if_neg c, Bool.eq_false_iff.mpr c, Bool.false_or]
   exact firstO_any lo hi r (i + 1)
set_option maxHeartbeats 8000000 in
set_option maxRecDepth 100000 in
theorem index_ (A : Option Addr) (c : Nat) (xs : List Int) (g : Nat) (v0 v1 v4 v5 : Value) (lo hi : Int) (w : World) (hC : Kd.C (Kd.int .i64) w A xs.length xs) (hl : xs.length < 17592186044416) (hb : w.heap[g]? = some (.cells #[v0, v1, .int .i64 lo, .int .i64 hi, v4, v5] 25 (0, 0))) :
  Calls Try.prog 42 #[.slice A xs.length c, .func (.func 39) #[] #[.pointer (some ⟨g, 0, none⟩)]] w fun e w' => e = .returned (.int .i64 (firstO lo hi xs 0)) ∧ Below w.heap.size w w' := by
 have HC := Aside0.mk hC
 have HL := Aside0.mk hl
 have HBB := Aside0.mk hb
 have HM := Aside0.mk (Below.refl w.heap.size w)
 have HT : Aside0 (firstO lo hi xs 0 = firstO lo hi (xs.drop 0) 0) := ⟨rfl⟩
 clear hC hl hb
 go_enter Try.func42, Try.ntmps42
 go_wp2
 go_loopg [8] (xs.length + 1) (fun kq v8 w' => ∃ (i : Nat) (a : Int), v8 = .int .i64 a ∧ Aside0 (a = (i : Int)) ∧ Aside0 (kq + i = xs.length + 1 ∧ i ≤ xs.length) ∧ Aside0 (firstO lo hi xs 0 = firstO lo hi (xs.drop i) i) ∧ Aside0 (Below w.heap.size w w'))
 case atStart => exact ⟨0, 0, rfl, ⟨rfl⟩, ⟨⟨by omega, by omega⟩⟩, HT, HM⟩
 case round =>
  clear HT HM
  obtain ⟨i, a, rfl, HE, HK, HT, HM⟩ := hrel
  cases gk with
  | zero => have := HK.out; omega
  | succ k1 =>
   by_cases cc : a < (xs.length : Int)
   ·have c0b : decide (a < (xs.length : Int)) = true := decide_eq_true cc
    have hi' : i < xs.length := by have := HE.out; omega
    have p1 : (0 : Int) ≤ a := by have := HE.out; omega
    have q1 : a < (xs.length : Int) := cc
    obtain ⟨ax, eax, xk⟩ := Kd.at_int (Kd.C_below HC.out HM.out) a p1 q1
    subst eax
    obtain ⟨y, hy⟩ : ∃ y, xs[i]? = some y := ⟨xs[i], List.getElem?_eq_getElem hi'⟩
    have hrd : rd xs a = y := by unfold rd; rw [HE.out, Int.toNat_natCast, List.getD_eq_getElem?_getD, hy]; rfl
    rw [hrd] at xk
    have HD : Aside0 (xs.drop i = y :: xs.drop (i + 1)) := ⟨by rw [List.drop_eq_getElem_cons hi']; rw [List.getElem?_eq_getElem hi'] at hy; rw [Option.some.inj hy]⟩
    have ew : wrap64 (a + 1) = a + 1 := wid (by have := HE.out; omega) (by have := HE.out; have := HL.out; omega)
    replace p1 := eq_true p1
    replace q1 := eq_true q1
    obtain ⟨bo, hbo⟩ : ∃ b, outB lo hi y = b := ⟨_, rfl⟩
    have EO := Aside0.mk hbo
    clear hrd hy cc hbo
    cases bo with
    | true =>
     have HT2 : Aside0 (firstO lo hi xs 0 = a) := ⟨by rw [HT.out, HD.out, firstO, if_pos EO.out, HE.out]⟩
     go_wp2_with (first | (go_at_call 39; refine (out_ y g v0 v1 v4 v5 lo hi _ (blk_below HBB.out (by repeat (first | (with_reducible first | exact HM.out | apply below_alloc | apply pw_below_drewN | apply below_drew1) | exact HM.out)))).mono ?_; rintro e w2 ⟨rfl, rfl⟩; rw [EO.out]))
     go_ret
     exact ⟨by rw [HT2.out]; rfl, HM.out⟩
    | false =>
     have HT2 : Aside0 (firstO lo hi xs 0 = firstO lo hi (xs.drop (i + 1)) (i + 1)) := ⟨by rw [HT.out, HD.out, firstO, if_neg (by rw [EO.out]; decide)]⟩
     go_wp2_with (first | (go_at_call 39; refine (out_ y g v0 v1 v4 v5 lo hi _ (blk_below HBB.out (by repeat (first | (with_reducible first | exact HM.out | apply below_alloc | apply pw_below_drewN | apply below_drew1) | exact HM.out)))).mono ?_; rintro e w2 ⟨rfl, rfl⟩; rw [EO.out]))
     go_roundg k1
     case measure => omega
     case rel => exact ⟨i + 1, a + 1, by first | rfl | rw [ew], ⟨by rw [HE.out]; rfl⟩, ⟨by have := HK.out; omega⟩, HT2, HM⟩
   ·have c0b : decide (a < (xs.length : Int)) = false := decide_eq_false cc
    have ei : i = xs.length := by have := HE.out; have := HK.out; omega
    have HT2 : Aside0 (firstO lo hi xs 0 = -1) := ⟨by rw [HT.out, ei, List.drop_length]; rfl⟩
    go_wp2
    go_ret
    exact ⟨by rw [HT2.out]; rfl, HM.out⟩
set_option maxHeartbeats 8000000 in
set_option maxRecDepth 100000 in
theorem contains_ (A : Option Addr) (c : Nat) (xs : List Int) (g : Nat) (v0 v1 v4 v5 : Value) (lo hi : Int) (w : World) (hC : Kd.C (Kd.int .i64) w A xs.length xs) (hl : xs.length < 17592186044416) (hb : w.heap[g]? = some (.cells #[v0, v1, .int .i64 lo, .int .i64 hi, v4, v5] 25 (0, 0))) :
  Calls Try.prog 38 #[.slice A xs.length c, .func (.func 39) #[] #[.pointer (some ⟨g, 0, none⟩)]] w fun e w' => e = .returned (.bool (xs.any (outB lo hi))) ∧ Below w.heap.size w w' := by
 have HC := Aside0.mk hC
 have HL := Aside0.mk hl
 have HBB := Aside0.mk hb
 have HA := Aside0.mk (firstO_any lo hi xs 0)
 have HM := Aside0.mk (Below.refl w.heap.size w)
 clear hC hl hb
 rw [← HA.out]
 go_enter Try.func38, Try.ntmps38
 go_wp2_with (first | (go_at_call 42; refine (index_ A c xs g v0 v1 v4 v5 lo hi _ (Kd.C_below HC.out (by repeat (first | (with_reducible first | exact HM.out | apply below_alloc | apply pw_below_drewN | apply below_drew1) | exact HM.out))) HL.out (blk_below HBB.out (by repeat (first | (with_reducible first | exact HM.out | apply below_alloc | apply pw_below_drewN | apply below_drew1) | exact HM.out)))).mono ?_; rintro e w2 ⟨rfl, hb⟩; have n_ := Aside0.mk (below_step (by repeat (first | (with_reducible first | exact HM.out | apply below_alloc | apply pw_below_drewN | apply below_drew1) | exact HM.out)) hb); clear HM; have HM := n_; clear n_ hb))
 go_ret
 exact ⟨rfl, HM.out⟩
def headR (x : S25) : Bool := decide (x.f2 < 0) || decide (x.f2 > x.f3) || x.f4.any (outB x.f2 x.f3)
def rightL (r : S25 → Bool) : Int → List S25 → Int → Bool
 | p, [], hi => decide (p ≤ hi)
 | p, k :: l, hi => if k.f2 < p ∨ r k = false then false else rightL r k.f3 l hi
def rightN : Nat → S25 → Bool
 | 0, _ => true
 | n + 1, x => if headR x = true then false else rightL (rightN n) x.f2 x.f5 x.f3
def RightAt (n : Nat) : Prop := ∀ (x : S25) (A4 A5 : Option Addr) (c4 c5 : Nat) (w : World), SizeOf.sizeOf x < n → GoodB x → szL [x] ≤ 1000000 → Kd.C (Kd.int .i64) w A4 x.f4.length x.f4 → Kd.C k25 w A5 x.f5.length x.f5 →
  Calls Try.prog 27 #[.agg #[.int .i64 x.f0, .int .i64 x.f1, .int .i64 x.f2, .int .i64 x.f3, .slice A4 x.f4.length c4, .slice A5 x.f5.length c5]] w fun e w' => e = .returned (.bool (rightN n x)) ∧ Below w.heap.size w w'
theorem szL_mem {l : List S25} {y : S25} (h : y ∈ l) : szL [y] ≤ szL l := by
 induction l with
 | nil => cases h
 | cons x r ih =>
  rw [szL_cons, szL_cons, szL_nil]
  rcases List.mem_cons.mp h with rfl | h
  ·omega
  ·have := ih h
   rw [szL_cons, szL_nil] at this
   omega
set_option maxHeartbeats 16000000 in
set_option maxRecDepth 100000 in
theorem rightround (n : Nat) (ih : RightAt n) : RightAt (n + 1) := by
 intro x A4 A5 c4 c5 w hz hg hsz hC4 hC5
 have IH := Aside0.mk ih
 have HZ := Aside0.mk hz
 have GX := Aside0.mk hg
 have SX := Aside0.mk hsz
 have C4 := Aside0.mk hC4
 have C5 := Aside0.mk hC5
 have HM := Aside0.mk (Below.refl w.heap.size w)
 have hmf : ∀ (fn : Fn) (first cap : Array Value) (w : World), (Instr.makeFunc fn first cap).run Try.prog w = .ok (.func fn first cap) w := fun _ _ _ _ => rfl
 have ER0 : Aside0 (rightN (n + 1) x = if headR x = true then false else rightL (rightN n) x.f2 x.f5 x.f3) := ⟨rfl⟩
 rw [ER0.out]
 clear ih hz hg hsz hC4 hC5 ER0
 by_cases c1 : x.f2 < 0
 ·have d1 : decide (x.f2 < 0) = true := decide_eq_true c1
  have HH : Aside0 (headR x = true) := ⟨by unfold headR; rw [d1]; rfl⟩
  rw [if_pos HH.out]
  go_enter Try.func27, Try.ntmps27
  go_wp2_with (first | ((with_reducible refine gate_dst (N := 1) rfl ?_); refine box_event ?hg (N := 1) ?hd (cs := #[.int .i64 x.f0, .int .i64 x.f1, .int .i64 x.f2, .int .i64 x.f3, .slice A4 x.f4.length c4, .slice A5 x.f5.length c5]) (t := 25) ?hr ?_; (case hd => rfl); (case hg => rfl); (case hr => first | (go_simp; done) | (go_simp; rfl)); intro gb hg w1 hbox hb; have BX := Aside0.mk hbox; have n_ := Aside0.mk (below_step (by repeat (first | (with_reducible first | exact HM.out | apply below_alloc | apply pw_below_drewN | apply below_drew1) | exact HM.out)) hb); clear HM; have HM := n_; clear n_ hb; clear hg hbox; have x0 : w1.cell? ⟨gb, 0, none⟩ = some (.int .i64 x.f0) := (blk_cell BX.out 0).trans rfl; have x1 : w1.cell? ⟨gb, 1, none⟩ = some (.int .i64 x.f1) := (blk_cell BX.out 1).trans rfl; have x2 : w1.cell? ⟨gb, 2, none⟩ = some (.int .i64 x.f2) := (blk_cell BX.out 2).trans rfl; have x3 : w1.cell? ⟨gb, 3, none⟩ = some (.int .i64 x.f3) := (blk_cell BX.out 3).trans rfl; have x4 : w1.cell? ⟨gb, 4, none⟩ = some (.slice A4 x.f4.length c4) := (blk_cell BX.out 4).trans rfl; have x5 : w1.cell? ⟨gb, 5, none⟩ = some (.slice A5 x.f5.length c5) := (blk_cell BX.out 5).trans rfl))
  go_ret
  exact ⟨rfl, HM.out⟩
 have d1 : decide (x.f2 < 0) = false := decide_eq_false c1
 by_cases c2 : x.f2 > x.f3
 ·have d2 : decide (x.f2 > x.f3) = true := decide_eq_true c2
  have HH : Aside0 (headR x = true) := ⟨by unfold headR; rw [d1, d2]; rfl⟩
  rw [if_pos HH.out]
  go_enter Try.func27, Try.ntmps27
  go_wp2_with (first | ((with_reducible refine gate_dst (N := 1) rfl ?_); refine box_event ?hg (N := 1) ?hd (cs := #[.int .i64 x.f0, .int .i64 x.f1, .int .i64 x.f2, .int .i64 x.f3, .slice A4 x.f4.length c4, .slice A5 x.f5.length c5]) (t := 25) ?hr ?_; (case hd => rfl); (case hg => rfl); (case hr => first | (go_simp; done) | (go_simp; rfl)); intro gb hg w1 hbox hb; have BX := Aside0.mk hbox; have n_ := Aside0.mk (below_step (by repeat (first | (with_reducible first | exact HM.out | apply below_alloc | apply pw_below_drewN | apply below_drew1) | exact HM.out)) hb); clear HM; have HM := n_; clear n_ hb; clear hg hbox; have x0 : w1.cell? ⟨gb, 0, none⟩ = some (.int .i64 x.f0) := (blk_cell BX.out 0).trans rfl; have x1 : w1.cell? ⟨gb, 1, none⟩ = some (.int .i64 x.f1) := (blk_cell BX.out 1).trans rfl; have x2 : w1.cell? ⟨gb, 2, none⟩ = some (.int .i64 x.f2) := (blk_cell BX.out 2).trans rfl; have x3 : w1.cell? ⟨gb, 3, none⟩ = some (.int .i64 x.f3) := (blk_cell BX.out 3).trans rfl; have x4 : w1.cell? ⟨gb, 4, none⟩ = some (.slice A4 x.f4.length c4) := (blk_cell BX.out 4).trans rfl; have x5 : w1.cell? ⟨gb, 5, none⟩ = some (.slice A5 x.f5.length c5) := (blk_cell BX.out 5).trans rfl))
  go_ret
  exact ⟨rfl, HM.out⟩
 have d2 : decide (x.f2 > x.f3) = false := decide_eq_false c2
 obtain ⟨bc, hbc⟩ : ∃ b, x.f4.any (outB x.f2 x.f3) = b := ⟨_, rfl⟩
 have EC := Aside0.mk hbc
 clear hbc
 cases bc with
 | true =>
  have HH : Aside0 (headR x = true) := ⟨by unfold headR; rw [d1, d2, EC.out]; rfl⟩
  rw [if_pos HH.out]
  go_enter Try.func27, Try.ntmps27
  go_wp2_with (first | ((with_reducible refine gate_dst (N := 1) rfl ?_); refine box_event ?hg (N := 1) ?hd (cs := #[.int .i64 x.f0, .int .i64 x.f1, .int .i64 x.f2, .int .i64 x.f3, .slice A4 x.f4.length c4, .slice A5 x.f5.length c5]) (t := 25) ?hr ?_; (case hd => rfl); (case hg => rfl); (case hr => first | (go_simp; done) | (go_simp; rfl)); intro gb hg w1 hbox hb; have BX := Aside0.mk hbox; have n_ := Aside0.mk (below_step (by repeat (first | (with_reducible first | exact HM.out | apply below_alloc | apply pw_below_drewN | apply below_drew1) | exact HM.out)) hb); clear HM; have HM := n_; clear n_ hb; clear hg hbox; have x0 : w1.cell? ⟨gb, 0, none⟩ = some (.int .i64 x.f0) := (blk_cell BX.out 0).trans rfl; have x1 : w1.cell? ⟨gb, 1, none⟩ = some (.int .i64 x.f1) := (blk_cell BX.out 1).trans rfl; have x2 : w1.cell? ⟨gb, 2, none⟩ = some (.int .i64 x.f2) := (blk_cell BX.out 2).trans rfl; have x3 : w1.cell? ⟨gb, 3, none⟩ = some (.int .i64 x.f3) := (blk_cell BX.out 3).trans rfl; have x4 : w1.cell? ⟨gb, 4, none⟩ = some (.slice A4 x.f4.length c4) := (blk_cell BX.out 4).trans rfl; have x5 : w1.cell? ⟨gb, 5, none⟩ = some (.slice A5 x.f5.length c5) := (blk_cell BX.out 5).trans rfl) | (go_at_call 38; refine (contains_ A4 c4 x.f4 gb _ _ _ _ x.f2 x.f3 _ (Kd.C_below C4.out (by repeat (first | (with_reducible first | exact HM.out | apply below_alloc | apply pw_below_drewN | apply below_drew1) | exact HM.out))) GX.out.n (blk_below BX.out (Below.refl _ _))).mono ?_; rintro e w2 ⟨rfl, hb⟩; rw [EC.out]; have n1_ := Aside0.mk (blk_below BX.out hb); clear BX; have BX := n1_; clear n1_; have n_ := Aside0.mk (below_step (by repeat (first | (with_reducible first | exact HM.out | apply below_alloc | apply pw_below_drewN | apply below_drew1) | exact HM.out)) hb); clear HM; have HM := n_; clear n_ hb; have x0 : w2.cell? ⟨gb, 0, none⟩ = some (.int .i64 x.f0) := (blk_cell BX.out 0).trans rfl; have x1 : w2.cell? ⟨gb, 1, none⟩ = some (.int .i64 x.f1) := (blk_cell BX.out 1).trans rfl; have x2 : w2.cell? ⟨gb, 2, none⟩ = some (.int .i64 x.f2) := (blk_cell BX.out 2).trans rfl; have x3 : w2.cell? ⟨gb, 3, none⟩ = some (.int .i64 x.f3) := (blk_cell BX.out 3).trans rfl; have x4 : w2.cell? ⟨gb, 4, none⟩ = some (.slice A4 x.f4.length c4) := (blk_cell BX.out 4).trans rfl; have x5 : w2.cell? ⟨gb, 5, none⟩ = some (.slice A5 x.f5.length c5) := (blk_cell BX.out 5).trans rfl))
  go_ret
  exact ⟨rfl, HM.out⟩
 | false =>
  have HH : Aside0 (headR x = false) := ⟨by unfold headR; rw [d1, d2, EC.out]; rfl⟩
  rw [if_neg (by rw [HH.out]; decide)]
  have SK : Aside0 (x.f5.length ≤ 1000000 ∧ szL x.f5 ≤ 1000000) := ⟨by have h1_ := SX.out; rw [szL_cons, szL_nil] at h1_; have h2_ := len_le_szL x.f5; omega⟩
  go_enter Try.func27, Try.ntmps27
  go_wp2_with (first | ((with_reducible refine gate_dst (N := 1) rfl ?_); refine box_event ?hg (N := 1) ?hd (cs := #[.int .i64 x.f0, .int .i64 x.f1, .int .i64 x.f2, .int .i64 x.f3, .slice A4 x.f4.length c4, .slice A5 x.f5.length c5]) (t := 25) ?hr ?_; (case hd => rfl); (case hg => rfl); (case hr => first | (go_simp; done) | (go_simp; rfl)); intro gb hg w1 hbox hb; have BX := Aside0.mk hbox; have n_ := Aside0.mk (below_step (by repeat (first | (with_reducible first | exact HM.out | apply below_alloc | apply pw_below_drewN | apply below_drew1) | exact HM.out)) hb); clear HM; have HM := n_; clear n_ hb; clear hg hbox; have x0 : w1.cell? ⟨gb, 0, none⟩ = some (.int .i64 x.f0) := (blk_cell BX.out 0).trans rfl; have x1 : w1.cell? ⟨gb, 1, none⟩ = some (.int .i64 x.f1) := (blk_cell BX.out 1).trans rfl; have x2 : w1.cell? ⟨gb, 2, none⟩ = some (.int .i64 x.f2) := (blk_cell BX.out 2).trans rfl; have x3 : w1.cell? ⟨gb, 3, none⟩ = some (.int .i64 x.f3) := (blk_cell BX.out 3).trans rfl; have x4 : w1.cell? ⟨gb, 4, none⟩ = some (.slice A4 x.f4.length c4) := (blk_cell BX.out 4).trans rfl; have x5 : w1.cell? ⟨gb, 5, none⟩ = some (.slice A5 x.f5.length c5) := (blk_cell BX.out 5).trans rfl) | (go_at_call 38; refine (contains_ A4 c4 x.f4 gb _ _ _ _ x.f2 x.f3 _ (Kd.C_below C4.out (by repeat (first | (with_reducible first | exact HM.out | apply below_alloc | apply pw_below_drewN | apply below_drew1) | exact HM.out))) GX.out.n (blk_below BX.out (Below.refl _ _))).mono ?_; rintro e w2 ⟨rfl, hb⟩; rw [EC.out]; have n1_ := Aside0.mk (blk_below BX.out hb); clear BX; have BX := n1_; clear n1_; have n_ := Aside0.mk (below_step (by repeat (first | (with_reducible first | exact HM.out | apply below_alloc | apply pw_below_drewN | apply below_drew1) | exact HM.out)) hb); clear HM; have HM := n_; clear n_ hb; have x0 : w2.cell? ⟨gb, 0, none⟩ = some (.int .i64 x.f0) := (blk_cell BX.out 0).trans rfl; have x1 : w2.cell? ⟨gb, 1, none⟩ = some (.int .i64 x.f1) := (blk_cell BX.out 1).trans rfl; have x2 : w2.cell? ⟨gb, 2, none⟩ = some (.int .i64 x.f2) := (blk_cell BX.out 2).trans rfl; have x3 : w2.cell? ⟨gb, 3, none⟩ = some (.int .i64 x.f3) := (blk_cell BX.out 3).trans rfl; have x4 : w2.cell? ⟨gb, 4, none⟩ = some (.slice A4 x.f4.length c4) := (blk_cell BX.out 4).trans rfl; have x5 : w2.cell? ⟨gb, 5, none⟩ = some (.slice A5 x.f5.length c5) := (blk_cell BX.out 5).trans rfl))
  clear x0 x1 x2 x3 x4 x5
  have HT : Aside0 (rightL (rightN n) x.f2 x.f5 x.f3 = rightL (rightN n) x.f2 (x.f5.drop 0) x.f3) := ⟨rfl⟩
  go_loopg [3, 27] (x.f5.length + 1) (fun kq v3 v27 w' => ∃ (i : Nat) (a pp : Int), v3 = .int .i64 pp ∧ v27 = .int .i64 a ∧ Aside0 (a = (i : Int)) ∧ Aside0 (kq + i = x.f5.length + 1 ∧ i ≤ x.f5.length) ∧ Aside0 (rightL (rightN n) x.f2 x.f5 x.f3 = rightL (rightN n) pp (x.f5.drop i) x.f3) ∧ Aside0 (w'.heap[gb]? = some (.cells #[.int .i64 x.f0, .int .i64 x.f1, .int .i64 x.f2, .int .i64 x.f3, .slice A4 x.f4.length c4, .slice A5 x.f5.length c5] 25 (0, 0))) ∧ Aside0 (Below w.heap.size w w'))
  case atStart => exact ⟨0, 0, x.f2, rfl, rfl, ⟨rfl⟩, ⟨⟨by omega, by omega⟩⟩, HT, BX, HM⟩
  case round =>
   clear HT BX HM
   obtain ⟨i, a, pp, rfl, rfl, HE, HK, HT, BX, HB⟩ := hrel
   cases gk with
   | zero => have := HK.out; omega
   | succ k1 =>
    by_cases cc : a < (x.f5.length : Int)
    ·have c0b : decide (a < (x.f5.length : Int)) = true := decide_eq_true cc
     have hi : i < x.f5.length := by have := HE.out; omega
     have p1 : (0 : Int) ≤ a := by have := HE.out; omega
     have q1 : a < (x.f5.length : Int) := cc
     obtain ⟨ad, D4, e4, D5, e5, ead, hy0, hy1, hy2, hy3, hy4, hy5, l4, g4, l5, g5⟩ := at_T25 (Kd.C_below C5.out HB.out) a p1 q1
     cases ead
     obtain ⟨y, hy⟩ : ∃ y, x.f5[i]? = some y := ⟨x.f5[i], List.getElem?_eq_getElem hi⟩
     have hry : rd_T25 x.f5 a = y := by unfold rd_T25; rw [HE.out, Int.toNat_natCast, List.getD_eq_getElem?_getD, hy]; rfl
     rw [hry] at hy0 hy1 hy2 hy3 hy4 hy5 l4 g4 l5 g5
     have hmem := List.mem_of_getElem? hy
     have HBR := Aside0.mk (Below.refl wr.heap.size wr)
     have CY4 := Aside0.mk g4
     have CY5 := Aside0.mk g5
     have GY := Aside0.mk (GX.out.k y hmem)
     have ZY : Aside0 (SizeOf.sizeOf y < n) := ⟨by have h1_ := szx x; have h2_ := List.sizeOf_lt_of_mem hmem; have h3_ := HZ.out; omega⟩
     have SY : Aside0 (szL [y] ≤ 1000000) := ⟨by have h1_ := szL_mem hmem; have h2_ := SK.out; omega⟩
     have HD : Aside0 (x.f5.drop i = y :: x.f5.drop (i + 1)) := ⟨by rw [List.drop_eq_getElem_cons hi]; rw [List.getElem?_eq_getElem hi] at hy; rw [Option.some.inj hy]⟩
     have ew : wrap64 (a + 1) = a + 1 := wid (by have := HE.out; omega) (by have := HE.out; have := SK.out; omega)
     replace p1 := eq_true p1
     replace q1 := eq_true q1
     clear hry hy hmem g4 g5 l4 l5 cc
     have HW := HB
     clear HB
     have HB := HBR
     clear HBR
     go_upto_region 7 with (first | ((with_reducible refine gate_dst (N := 5) rfl ?_); refine box_event ?hg (N := 5) ?hd (cs := #[.int .i64 0, .int .i64 0, .int .i64 0, .int .i64 0, .slice none 0 0, .slice none 0 0]) (t := 25) ?hr ?_; (case hd => rfl); (case hg => rfl); (case hr => first | (go_simp; done) | (go_simp; rfl)); intro gy hg w_gy hbox hb; have BY := Aside0.mk hbox; have GY_ := Aside0.mk ((by rw [hg]; exact (below_size (by repeat (first | (with_reducible first | exact HB.out | apply below_alloc | apply pw_below_drewN | apply below_drew1) | exact HB.out)))) : wr.heap.size ≤ gy); have NE := Aside0.mk (Nat.ne_of_lt (Nat.lt_of_lt_of_le (Array.getElem?_eq_some_iff.mp BX.out).1 (by rw [hg]; exact Nat.le_refl _)) : gb ≠ gy); have BX2 := Aside0.mk (blk_below BX.out hb); have n_ := Aside0.mk (below_step (by repeat (first | (with_reducible first | exact HB.out | apply below_alloc | apply pw_below_drewN | apply below_drew1) | exact HB.out)) hb); clear HB; have HB := n_; clear n_ hb hbox hg; have cgy_0 : w_gy.cell? ⟨gy, 0, none⟩ = some (.int .i64 0) := (blk_cell BY.out 0).trans rfl; have fgy_0 := blk_frozen BY.out 0; have cgy_1 : w_gy.cell? ⟨gy, 1, none⟩ = some (.int .i64 0) := (blk_cell BY.out 1).trans rfl; have fgy_1 := blk_frozen BY.out 1; have cgy_2 : w_gy.cell? ⟨gy, 2, none⟩ = some (.int .i64 0) := (blk_cell BY.out 2).trans rfl; have fgy_2 := blk_frozen BY.out 2; have cgy_3 : w_gy.cell? ⟨gy, 3, none⟩ = some (.int .i64 0) := (blk_cell BY.out 3).trans rfl; have fgy_3 := blk_frozen BY.out 3; have cgy_4 : w_gy.cell? ⟨gy, 4, none⟩ = some (.slice none 0 0) := (blk_cell BY.out 4).trans rfl; have fgy_4 := blk_frozen BY.out 4; have cgy_5 : w_gy.cell? ⟨gy, 5, none⟩ = some (.slice none 0 0) := (blk_cell BY.out 5).trans rfl; have fgy_5 := blk_frozen BY.out 5))
     have BY_0 := Aside0.mk (blk_put BY.out 0 (.int .i64 y.f0) rfl)
     have BY_1 := Aside0.mk (blk_put BY_0.out 1 (.int .i64 y.f1) rfl)
     have BY_2 := Aside0.mk (blk_put BY_1.out 2 (.int .i64 y.f2) rfl)
     have BY_3 := Aside0.mk (blk_put BY_2.out 3 (.int .i64 y.f3) rfl)
     have BY_4 := Aside0.mk (blk_put BY_3.out 4 (.slice D4 y.f4.length e4) rfl)
     have BY_5 := Aside0.mk (blk_put BY_4.out 5 (.slice D5 y.f5.length e5) rfl)
     have BX3 := Aside0.mk (blk_far (p := ⟨gy, 5, none⟩) (blk_far (p := ⟨gy, 4, none⟩) (blk_far (p := ⟨gy, 3, none⟩) (blk_far (p := ⟨gy, 2, none⟩) (blk_far (p := ⟨gy, 1, none⟩) (blk_far (p := ⟨gy, 0, none⟩) BX2.out NE.out (.int .i64 y.f0)) NE.out (.int .i64 y.f1)) NE.out (.int .i64 y.f2)) NE.out (.int .i64 y.f3)) NE.out (.slice D4 y.f4.length e4)) NE.out (.slice D5 y.f5.length e5))
     have BY3 := Aside0.mk (show (((((((w_gy.setCell ⟨gy, 0, none⟩ (.int .i64 y.f0)).setCell ⟨gy, 1, none⟩ (.int .i64 y.f1)).setCell ⟨gy, 2, none⟩ (.int .i64 y.f2)).setCell ⟨gy, 3, none⟩ (.int .i64 y.f3)).setCell ⟨gy, 4, none⟩ (.slice D4 y.f4.length e4)).setCell ⟨gy, 5, none⟩ (.slice D5 y.f5.length e5))).heap[gy]? = some (.cells #[.int .i64 y.f0, .int .i64 y.f1, .int .i64 y.f2, .int .i64 y.f3, .slice D4 y.f4.length e4, .slice D5 y.f5.length e5] 25 (0, 0)) from BY_5.out)
     have n_ := Aside0.mk (below_set (below_set (below_set (below_set (below_set (below_set HB.out GY_.out (v := .int .i64 y.f0) (j := 0)) GY_.out (v := .int .i64 y.f1) (j := 1)) GY_.out (v := .int .i64 y.f2) (j := 2)) GY_.out (v := .int .i64 y.f3) (j := 3)) GY_.out (v := .slice D4 y.f4.length e4) (j := 4)) GY_.out (v := .slice D5 y.f5.length e5) (j := 5))
     clear HB
     have HB := n_
     clear n_ BX2 BX BY BY_0 BY_1 BY_2 BY_3 BY_4 BY_5 cgy_0 fgy_0 cgy_1 fgy_1 cgy_2 fgy_2 cgy_3 fgy_3 cgy_4 fgy_4 cgy_5 fgy_5 hy0 hy1 hy2 hy3 hy4 hy5
     generalize ((((((w_gy.setCell ⟨gy, 0, none⟩ (.int .i64 y.f0)).setCell ⟨gy, 1, none⟩ (.int .i64 y.f1)).setCell ⟨gy, 2, none⟩ (.int .i64 y.f2)).setCell ⟨gy, 3, none⟩ (.int .i64 y.f3)).setCell ⟨gy, 4, none⟩ (.slice D4 y.f4.length e4)).setCell ⟨gy, 5, none⟩ (.slice D5 y.f5.length e5)) = w3 at BX3 BY3 HB ⊢
     have z0 : w3.cell? ⟨gy, 0, none⟩ = some (.int .i64 y.f0) := (blk_cell BY3.out 0).trans rfl
     have z1 : w3.cell? ⟨gy, 1, none⟩ = some (.int .i64 y.f1) := (blk_cell BY3.out 1).trans rfl
     have z2 : w3.cell? ⟨gy, 2, none⟩ = some (.int .i64 y.f2) := (blk_cell BY3.out 2).trans rfl
     have z3 : w3.cell? ⟨gy, 3, none⟩ = some (.int .i64 y.f3) := (blk_cell BY3.out 3).trans rfl
     have z4 : w3.cell? ⟨gy, 4, none⟩ = some (.slice D4 y.f4.length e4) := (blk_cell BY3.out 4).trans rfl
     have z5 : w3.cell? ⟨gy, 5, none⟩ = some (.slice D5 y.f5.length e5) := (blk_cell BY3.out 5).trans rfl
     by_cases c3 : y.f2 < pp
     ·have d3 : decide (y.f2 < pp) = true := decide_eq_true c3
      have HT2 : Aside0 (rightL (rightN n) x.f2 x.f5 x.f3 = false) := ⟨by rw [HT.out, HD.out, rightL, if_pos (.inl c3)]⟩
      go_wp2
      go_ret
      exact ⟨by rw [HT2.out]; rfl, below_step HW.out HB.out⟩
     ·have d3 : decide (y.f2 < pp) = false := decide_eq_false c3
      obtain ⟨br, hbr⟩ : ∃ b, rightN n y = b := ⟨_, rfl⟩
      have ER := Aside0.mk hbr
      clear hbr
      cases br with
      | false =>
       have HT2 : Aside0 (rightL (rightN n) x.f2 x.f5 x.f3 = false) := ⟨by rw [HT.out, HD.out, rightL, if_pos (.inr ER.out)]⟩
       go_wp2_with (first | (go_at_call 27; refine (IH.out y D4 D5 e4 e5 _ ZY.out GY.out SY.out (Kd.C_below CY4.out (by repeat (first | (with_reducible first | exact HB.out | apply below_alloc | apply pw_below_drewN | apply below_drew1) | exact HB.out))) (Kd.C_below CY5.out (by repeat (first | (with_reducible first | exact HB.out | apply below_alloc | apply pw_below_drewN | apply below_drew1) | exact HB.out)))).mono ?_; rintro e w4 ⟨rfl, hb⟩; rw [ER.out]; have n1_ := Aside0.mk (blk_below BX3.out hb); clear BX3; have BX3 := n1_; clear n1_; have n1_ := Aside0.mk (blk_below BY3.out hb); clear BY3; have BY3 := n1_; clear n1_; have n_ := Aside0.mk (below_step (by repeat (first | (with_reducible first | exact HB.out | apply below_alloc | apply pw_below_drewN | apply below_drew1) | exact HB.out)) hb); clear HB; have HB := n_; clear n_ hb; have z3 : w4.cell? ⟨gy, 3, none⟩ = some (.int .i64 y.f3) := (blk_cell BY3.out 3).trans rfl))
       go_ret
       exact ⟨by rw [HT2.out]; rfl, below_step HW.out HB.out⟩
      | true =>
       have HT2 : Aside0 (rightL (rightN n) x.f2 x.f5 x.f3 = rightL (rightN n) y.f3 (x.f5.drop (i + 1)) x.f3) := ⟨by rw [HT.out, HD.out, rightL, if_neg (fun h => h.elim c3 (fun h => absurd (ER.out.symm.trans h) (by decide)))]⟩
       go_wp2_with (first | (go_at_call 27; refine (IH.out y D4 D5 e4 e5 _ ZY.out GY.out SY.out (Kd.C_below CY4.out (by repeat (first | (with_reducible first | exact HB.out | apply below_alloc | apply pw_below_drewN | apply below_drew1) | exact HB.out))) (Kd.C_below CY5.out (by repeat (first | (with_reducible first | exact HB.out | apply below_alloc | apply pw_below_drewN | apply below_drew1) | exact HB.out)))).mono ?_; rintro e w4 ⟨rfl, hb⟩; rw [ER.out]; have n1_ := Aside0.mk (blk_below BX3.out hb); clear BX3; have BX3 := n1_; clear n1_; have n1_ := Aside0.mk (blk_below BY3.out hb); clear BY3; have BY3 := n1_; clear n1_; have n_ := Aside0.mk (below_step (by repeat (first | (with_reducible first | exact HB.out | apply below_alloc | apply pw_below_drewN | apply below_drew1) | exact HB.out)) hb); clear HB; have HB := n_; clear n_ hb; have z3 : w4.cell? ⟨gy, 3, none⟩ = some (.int .i64 y.f3) := (blk_cell BY3.out 3).trans rfl))
       go_roundg k1
       case measure => omega
       case rel => exact ⟨i + 1, a + 1, y.f3, rfl, by first | rfl | rw [ew], ⟨by rw [HE.out]; rfl⟩, ⟨by have := HK.out; omega⟩, HT2, BX3, ⟨below_step HW.out HB.out⟩⟩
    ·have c0b : decide (a < (x.f5.length : Int)) = false := decide_eq_false cc
     have ei : i = x.f5.length := by have := HE.out; have := HK.out; omega
     have HT2 : Aside0 (rightL (rightN n) x.f2 x.f5 x.f3 = decide (pp ≤ x.f3)) := ⟨by rw [HT.out, ei, List.drop_length]; rfl⟩
     have x3 : wr.cell? ⟨gb, 3, none⟩ = some (.int .i64 x.f3) := (blk_cell BX.out 3).trans rfl
     go_wp2
     go_ret
     exact ⟨by rw [HT2.out]; rfl, HB.out⟩
theorem right_ : ∀ n, RightAt n
 | 0 => fun x A4 A5 c4 c5 w h => absurd h (Nat.not_lt_zero _)
 | n + 1 => rightround n (right_ n)
end Go.Proofs.Ytemdnmidhmddlaa.Tree
