/- What a tree is asked: Len, has, holds, Knot, Names, Kids, Path, Deep, walked. A tree that is none is one of no knots. Conditions: as the theorems say. -/
import Derived.Test.YtemdnmidhmddlaaTrC
namespace Go.Proofs.Ytemdnmidhmddlaa.Tree
open Go Go.RowKit Go.Proofs.YtemdnmidhmddlaaW.PrintWords Go.Proofs.YtemdnmidhmddlaaW.PrintLast Go.Proofs.YtemdnmidhmddlaaW.PrintMore Go.Proofs.Ytemdnmidhmddlaa.PAll
set_option linter.unusedVariables false
set_option linter.unusedSimpArgs false
def TreeP (w : World) (p : Option Addr) (ks : List S39) (ns : List (List Int)) : Prop := ns.length = ks.length ∧ ((p = none ∧ ks = []) ∨ ∃ g, p = some ⟨g, 0, none⟩ ∧ TreeAt w g ks ns)
theorem TreeP.below {w w1 : World} {p : Option Addr} {ks : List S39} {ns : List (List Int)} (h : TreeP w p ks ns) (hb : Below w.heap.size w w1) : TreeP w1 p ks ns :=
 ⟨h.1, h.2.elim .inl (fun ⟨g, e, ht⟩ => .inr ⟨g, e, ht.below hb⟩)⟩
theorem TreeP.none_ (w : World) : TreeP w none [] [] := ⟨rfl, .inl ⟨rfl, rfl⟩⟩
theorem TreeP.at_ {w : World} {p : Option Addr} {ks : List S39} {ns : List (List Int)} (h : TreeP w p ks ns) (hp : 0 < ks.length) : ∃ g A0 c0 A1 c1, p = some ⟨g, 0, none⟩ ∧ w.cell? ⟨g, 0, none⟩ = some (.slice A0 ks.length c0) ∧ w.cell? ⟨g, 1, none⟩ = some (.slice A1 ks.length c1) ∧ Kd.C k39 w A0 ks.length ks ∧ Kd.C kn w A1 ks.length ns := by
 obtain ⟨hl, ⟨_, rfl⟩ | ⟨g, rfl, A0, c0, A1, c1, h1, h2, h3, h4, h5⟩⟩ := h
 ·exact absurd hp (Nat.lt_irrefl 0)
 ·exact ⟨g, A0, c0, A1, c1, rfl, (blk_cell h1 0).trans rfl, (blk_cell h1 1).trans (by rw [hl]; rfl), h4, hl ▸ h5⟩
def hasB (ks : List S39) (n : Int) : Bool := decide (0 ≤ n ∧ n < (ks.length : Int))
theorem hasB_t {ks : List S39} {n : Int} (h : hasB ks n = true) : 0 ≤ n ∧ n < (ks.length : Int) := of_decide_eq_true h
set_option maxHeartbeats 8000000 in
set_option maxRecDepth 100000 in
theorem len_ (p : Option Addr) (ks : List S39) (ns : List (List Int)) (w : World) (h : TreeP w p ks ns) :
  Calls Try.prog 15 #[.pointer p] w fun e w' => e = .returned (.int .i64 (ks.length : Int)) ∧ Below w.heap.size w w' := by
 have HM := Aside0.mk (Below.refl w.heap.size w)
 obtain ⟨hl, ⟨rfl, rfl⟩ | ⟨g, rfl, A0, c0, A1, c1, h1, h2, h3, h4, h5⟩⟩ := h
 ·go_enter Try.func15, Try.ntmps15
  go_wp2
  go_ret
  exact ⟨rfl, HM.out⟩
 ·have x0 : w.cell? ⟨g, 0, none⟩ = some (.slice A0 ks.length c0) := (blk_cell h1 0).trans rfl
  clear h1 h2 h3 h4 h5
  go_enter Try.func15, Try.ntmps15
  go_wp2
  go_ret
  exact ⟨rfl, HM.out⟩
set_option maxHeartbeats 8000000 in
set_option maxRecDepth 100000 in
theorem has_ (p : Option Addr) (ks : List S39) (ns : List (List Int)) (n : Int) (w : World) (h : TreeP w p ks ns) :
  Calls Try.prog 35 #[.pointer p, .int .i64 n] w fun e w' => e = .returned (.bool (hasB ks n)) ∧ Below w.heap.size w w' := by
 have HT := Aside0.mk h
 have HM := Aside0.mk (Below.refl w.heap.size w)
 clear h
 have hq : hasB ks n = (decide (n ≥ 0) && decide (n < (ks.length : Int))) := by
  unfold hasB
  rw [Bool.eq_iff_iff]
  simp
 have HQ := Aside0.mk hq
 clear hq
 by_cases c : n ≥ 0
 ·have c0 : decide (n ≥ 0) = true := decide_eq_true c
  go_enter Try.func35, Try.ntmps35
  go_wp2_with (first | (go_at_call 15; refine (len_ p ks ns _ (HT.out.below (by repeat (first | (with_reducible first | exact HM.out | apply below_alloc | apply pw_below_drewN | apply below_drew1) | exact HM.out)))).mono ?_; rintro e w9 ⟨rfl, hb⟩; have n_ := Aside0.mk (below_step (by repeat (first | (with_reducible first | exact HM.out | apply below_alloc | apply pw_below_drewN | apply below_drew1) | exact HM.out)) hb); clear HM; have HM := n_; clear n_ hb))
  go_ret
  exact ⟨by rw [HQ.out, c0, Bool.true_and]; rfl, HM.out⟩
 ·have c0 : decide (n ≥ 0) = false := decide_eq_false c
  go_enter Try.func35, Try.ntmps35
  go_wp2_with (first | (go_at_call 15; refine (len_ p ks ns _ (HT.out.below (by repeat (first | (with_reducible first | exact HM.out | apply below_alloc | apply pw_below_drewN | apply below_drew1) | exact HM.out)))).mono ?_; rintro e w9 ⟨rfl, hb⟩; have n_ := Aside0.mk (below_step (by repeat (first | (with_reducible first | exact HM.out | apply below_alloc | apply pw_below_drewN | apply below_drew1) | exact HM.out)) hb); clear HM; have HM := n_; clear n_ hb))
  go_ret
  exact ⟨by rw [HQ.out, c0, Bool.false_and]; rfl, HM.out⟩
def holdB (ks : List S39) (n tok : Int) : Bool := decide ((rd_T39 ks n).f2 ≤ tok) && decide (tok < (rd_T39 ks n).f3)
set_option maxHeartbeats 8000000 in
set_option maxRecDepth 100000 in
theorem holds_ (p : Option Addr) (ks : List S39) (ns : List (List Int)) (n tok : Int) (w : World) (h : TreeP w p ks ns) (hn : hasB ks n = true) :
  Calls Try.prog 33 #[.pointer p, .int .i64 n, .int .i64 tok] w fun e w' => e = .returned (.bool (holdB ks n tok)) ∧ Below w.heap.size w w' := by
 obtain ⟨p1, q1⟩ := hasB_t hn
 obtain ⟨g, A0, c0, A1, c1, rfl, x0, x1, hC, _⟩ := h.at_ (by omega)
 obtain ⟨ad, rfl, y0, y1, y2, y3, y4, y5, y6⟩ := at_T39 hC n p1 q1
 have HM := Aside0.mk (Below.refl w.heap.size w)
 have EH : Aside0 (holdB ks n tok = (decide ((rd_T39 ks n).f2 ≤ tok) && decide (tok < (rd_T39 ks n).f3))) := ⟨rfl⟩
 generalize rd_T39 ks n = k at y0 y1 y2 y3 y4 y5 y6 EH
 replace p1 := eq_true p1
 replace q1 := eq_true q1
 clear h hC hn y0 y1 y4 y5 y6 x1
 rw [EH.out]
 by_cases c : k.f2 ≤ tok
 ·have d : decide (k.f2 ≤ tok) = true := decide_eq_true c
  go_enter Try.func33, Try.ntmps33
  go_wp2
  go_ret
  exact ⟨by rw [d, Bool.true_and]; rfl, HM.out⟩
 ·have d : decide (k.f2 ≤ tok) = false := decide_eq_false c
  go_enter Try.func33, Try.ntmps33
  go_wp2
  go_ret
  exact ⟨by first | rfl | (rw [d, Bool.false_and]; rfl), HM.out⟩
def knotF (ks : List S39) (n : Int) : S39 := if hasB ks n = true then rd_T39 ks n else z39
def knotV (k : S39) : Value := .agg #[.int .i64 k.f0, .int .i64 k.f1, .int .i64 k.f2, .int .i64 k.f3, .int .i64 k.f4, .int .i64 k.f5, .int .i64 k.f6]
set_option maxHeartbeats 8000000 in
set_option maxRecDepth 100000 in
theorem knot_ (p : Option Addr) (ks : List S39) (ns : List (List Int)) (n : Int) (w : World) (h : TreeP w p ks ns) :
  Calls Try.prog 17 #[.pointer p, .int .i64 n] w fun e w' => e = .returned (.tuple #[knotV (knotF ks n), .bool (hasB ks n)]) ∧ Below w.heap.size w w' := by
 have HT := Aside0.mk h
 have HM := Aside0.mk (Below.refl w.heap.size w)
 have hu39 := Try.underlying39
 obtain ⟨bh, hbh⟩ : ∃ b, hasB ks n = b := ⟨_, rfl⟩
 have HBH := Aside0.mk hbh
 clear h hbh
 go_enter Try.func17, Try.ntmps17
 go_upto_region 1 with (first | ((with_reducible refine gate_dst (N := 4) rfl ?_); refine box_event ?hg (N := 4) ?hd (cs := #[.int .i64 0, .int .i64 0, .int .i64 0, .int .i64 0, .int .i64 0, .int .i64 0, .int .i64 0]) (t := 39) ?hr ?_; (case hd => rfl); (case hg => rfl); (case hr => first | (go_simp; done) | (go_simp; rfl)); intro gb hg w1 hbox hb; have BB := Aside0.mk hbox; have GB := Aside0.mk ((by rw [hg]; exact (below_size (by repeat (first | (with_reducible first | exact HM.out | apply below_alloc | apply pw_below_drewN | apply below_drew1) | exact HM.out)))) : w.heap.size ≤ gb); have n0_ := Aside0.mk (below_step (by repeat (first | (with_reducible first | exact HM.out | apply below_alloc | apply pw_below_drewN | apply below_drew1) | exact HM.out)) hb); clear HM; have HM := n0_; clear n0_ hg hb hbox))
 cases bh with
 | false =>
  have HK : Aside0 (knotF ks n = z39) := ⟨by unfold knotF; rw [HBH.out, if_neg (by decide)]⟩
  go_wp2_with (first | (go_at_call 35; refine (has_ _ ks ns n _ (HT.out.below (by repeat (first | (with_reducible first | exact HM.out | apply below_alloc | apply pw_below_drewN | apply below_drew1) | exact HM.out)))).mono ?_; rintro e w2 ⟨rfl, hb⟩; rw [HBH.out]; have B2 := Aside0.mk (blk_below BB.out hb); have n_ := Aside0.mk (below_step (by repeat (first | (with_reducible first | exact HM.out | apply below_alloc | apply pw_below_drewN | apply below_drew1) | exact HM.out)) hb); clear HM; have HM := n_; clear n_ hb; have bc0 : w2.cell? ⟨gb, 0, none⟩ = some (.int .i64 0) := (blk_cell B2.out 0).trans rfl; have bf0 := blk_frozen B2.out 0; have bc1 : w2.cell? ⟨gb, 1, none⟩ = some (.int .i64 0) := (blk_cell B2.out 1).trans rfl; have bf1 := blk_frozen B2.out 1; have bc2 : w2.cell? ⟨gb, 2, none⟩ = some (.int .i64 0) := (blk_cell B2.out 2).trans rfl; have bf2 := blk_frozen B2.out 2; have bc3 : w2.cell? ⟨gb, 3, none⟩ = some (.int .i64 0) := (blk_cell B2.out 3).trans rfl; have bf3 := blk_frozen B2.out 3; have bc4 : w2.cell? ⟨gb, 4, none⟩ = some (.int .i64 0) := (blk_cell B2.out 4).trans rfl; have bf4 := blk_frozen B2.out 4; have bc5 : w2.cell? ⟨gb, 5, none⟩ = some (.int .i64 0) := (blk_cell B2.out 5).trans rfl; have bf5 := blk_frozen B2.out 5; have bc6 : w2.cell? ⟨gb, 6, none⟩ = some (.int .i64 0) := (blk_cell B2.out 6).trans rfl; have bf6 := blk_frozen B2.out 6; clear BB))
  refine bodyPost_ret (results_list (rs := [.cell 4 39, .tmp 5]) rfl (by simp) (.cell gb 39 #[.int .i64 0, .int .i64 0, .int .i64 0, .int .i64 0, .int .i64 0, .int .i64 0, .int .i64 0] (0, 0) _ rfl (blk_put (blk_put (blk_put (blk_put (blk_put (blk_put (blk_put B2.out 0 (.int .i64 0) rfl) 1 (.int .i64 0) rfl) 2 (.int .i64 0) rfl) 3 (.int .i64 0) rfl) 4 (.int .i64 0) rfl) 5 (.int .i64 0) rfl) 6 (.int .i64 0) rfl) Try.underlying39 rfl (by kernel_rfl) (.tmp .nil))) rfl ?_
  exact ⟨by rw [HK.out, HBH.out]; rfl, (below_set (below_set (below_set (below_set (below_set (below_set (below_set HM.out GB.out (v := .int .i64 0) (j := 0)) GB.out (v := .int .i64 0) (j := 1)) GB.out (v := .int .i64 0) (j := 2)) GB.out (v := .int .i64 0) (j := 3)) GB.out (v := .int .i64 0) (j := 4)) GB.out (v := .int .i64 0) (j := 5)) GB.out (v := .int .i64 0) (j := 6))⟩
 | true =>
  obtain ⟨p1, q1⟩ := hasB_t HBH.out
  obtain ⟨g, A0, c0, A1, c1, rfl, x0, x1, hC, _⟩ := HT.out.at_ (by omega)
  obtain ⟨ad, rfl, y0, y1, y2, y3, y4, y5, y6⟩ := at_T39 hC n p1 q1
  have HK : Aside0 (knotF ks n = rd_T39 ks n) := ⟨by unfold knotF; rw [HBH.out, if_pos rfl]⟩
  generalize rd_T39 ks n = k at y0 y1 y2 y3 y4 y5 y6 HK
  replace p1 := eq_true p1
  replace q1 := eq_true q1
  have X0 := Aside0.mk x0
  have Y0 := Aside0.mk y0
  have Y1 := Aside0.mk y1
  have Y2 := Aside0.mk y2
  have Y3 := Aside0.mk y3
  have Y4 := Aside0.mk y4
  have Y5 := Aside0.mk y5
  have Y6 := Aside0.mk y6
  clear hC x1 x0 y0 y1 y2 y3 y4 y5 y6
  go_wp2_with (first | (go_at_call 35; refine (has_ _ ks ns n _ (HT.out.below (by repeat (first | (with_reducible first | exact HM.out | apply below_alloc | apply pw_below_drewN | apply below_drew1) | exact HM.out)))).mono ?_; rintro e w2 ⟨rfl, hb⟩; rw [HBH.out]; have B2 := Aside0.mk (blk_below BB.out hb); have n_ := Aside0.mk (below_step (by repeat (first | (with_reducible first | exact HM.out | apply below_alloc | apply pw_below_drewN | apply below_drew1) | exact HM.out)) hb); clear HM; have HM := n_; clear n_ hb; have bc0 : w2.cell? ⟨gb, 0, none⟩ = some (.int .i64 0) := (blk_cell B2.out 0).trans rfl; have bf0 := blk_frozen B2.out 0; have bc1 : w2.cell? ⟨gb, 1, none⟩ = some (.int .i64 0) := (blk_cell B2.out 1).trans rfl; have bf1 := blk_frozen B2.out 1; have bc2 : w2.cell? ⟨gb, 2, none⟩ = some (.int .i64 0) := (blk_cell B2.out 2).trans rfl; have bf2 := blk_frozen B2.out 2; have bc3 : w2.cell? ⟨gb, 3, none⟩ = some (.int .i64 0) := (blk_cell B2.out 3).trans rfl; have bf3 := blk_frozen B2.out 3; have bc4 : w2.cell? ⟨gb, 4, none⟩ = some (.int .i64 0) := (blk_cell B2.out 4).trans rfl; have bf4 := blk_frozen B2.out 4; have bc5 : w2.cell? ⟨gb, 5, none⟩ = some (.int .i64 0) := (blk_cell B2.out 5).trans rfl; have bf5 := blk_frozen B2.out 5; have bc6 : w2.cell? ⟨gb, 6, none⟩ = some (.int .i64 0) := (blk_cell B2.out 6).trans rfl; have bf6 := blk_frozen B2.out 6; have x0 := (HM.out.cell (World.block_lt_of_cell? w _ X0.out)).trans X0.out; have y0 := (HM.out.cell (World.block_lt_of_cell? w _ Y0.out)).trans Y0.out; have y1 := (HM.out.cell (World.block_lt_of_cell? w _ Y1.out)).trans Y1.out; have y2 := (HM.out.cell (World.block_lt_of_cell? w _ Y2.out)).trans Y2.out; have y3 := (HM.out.cell (World.block_lt_of_cell? w _ Y3.out)).trans Y3.out; have y4 := (HM.out.cell (World.block_lt_of_cell? w _ Y4.out)).trans Y4.out; have y5 := (HM.out.cell (World.block_lt_of_cell? w _ Y5.out)).trans Y5.out; have y6 := (HM.out.cell (World.block_lt_of_cell? w _ Y6.out)).trans Y6.out; clear BB))
  refine bodyPost_ret (results_list (rs := [.cell 4 39, .tmp 5]) rfl (by simp) (.cell gb 39 #[.int .i64 k.f0, .int .i64 k.f1, .int .i64 k.f2, .int .i64 k.f3, .int .i64 k.f4, .int .i64 k.f5, .int .i64 k.f6] (0, 0) _ rfl (blk_put (blk_put (blk_put (blk_put (blk_put (blk_put (blk_put B2.out 0 (.int .i64 k.f0) rfl) 1 (.int .i64 k.f1) rfl) 2 (.int .i64 k.f2) rfl) 3 (.int .i64 k.f3) rfl) 4 (.int .i64 k.f4) rfl) 5 (.int .i64 k.f5) rfl) 6 (.int .i64 k.f6) rfl) Try.underlying39 rfl (by kernel_rfl) (.tmp .nil))) rfl ?_
  exact ⟨by rw [HK.out, HBH.out]; rfl, (below_set (below_set (below_set (below_set (below_set (below_set (below_set HM.out GB.out (v := .int .i64 k.f0) (j := 0)) GB.out (v := .int .i64 k.f1) (j := 1)) GB.out (v := .int .i64 k.f2) (j := 2)) GB.out (v := .int .i64 k.f3) (j := 3)) GB.out (v := .int .i64 k.f4) (j := 4)) GB.out (v := .int .i64 k.f5) (j := 5)) GB.out (v := .int .i64 k.f6) (j := 6))⟩
def namesF (ks : List S39) (ns : List (List Int)) (n : Int) : List Int := if hasB ks n = true then rdN ns n else []
set_option maxHeartbeats 8000000 in
set_option maxRecDepth 100000 in
theorem names_ (p : Option Addr) (ks : List S39) (ns : List (List Int)) (n : Int) (w : World) (h : TreeP w p ks ns) (hl : (namesF ks ns n).length < 17592186044416) :
  Calls Try.prog 19 #[.pointer p, .int .i64 n] w fun e w' => ∃ v, e = .returned v ∧ Kd.R (Kd.int .i64) 3 w' w.heap.size (fun _ => True) v (namesF ks ns n) ∧ Below w.heap.size w w' := by
 have HT := Aside0.mk h
 have HL := Aside0.mk hl
 have HM := Aside0.mk (Below.refl w.heap.size w)
 obtain ⟨bh, hbh⟩ : ∃ b, hasB ks n = b := ⟨_, rfl⟩
 have HBH := Aside0.mk hbh
 clear h hbh hl
 cases bh with
 | false =>
  have HK : Aside0 (namesF ks ns n = []) := ⟨by unfold namesF; rw [HBH.out, if_neg (by decide)]⟩
  go_enter Try.func19, Try.ntmps19
  go_wp2_with (first | (go_at_call 35; refine (has_ _ ks ns n _ (HT.out.below (by repeat (first | (with_reducible first | exact HM.out | apply below_alloc | apply pw_below_drewN | apply below_drew1) | exact HM.out)))).mono ?_; rintro e w2 ⟨rfl, hb⟩; rw [HBH.out]; have n_ := Aside0.mk (below_step (by repeat (first | (with_reducible first | exact HM.out | apply below_alloc | apply pw_below_drewN | apply below_drew1) | exact HM.out)) hb); clear HM; have HM := n_; clear n_ hb))
  go_ret
  exact ⟨_, rfl, by rw [HK.out]; exact Kd.R_nil _ _ _ _ _, HM.out⟩
 | true =>
  obtain ⟨p1, q1⟩ := hasB_t HBH.out
  obtain ⟨g, A0, c0, A1, c1, rfl, x0, x1, _, hC⟩ := HT.out.at_ (by omega)
  obtain ⟨ad, A4, c4, rfl, y0, l4, g4⟩ := atN hC n p1 q1
  have HK : Aside0 (namesF ks ns n = rdN ns n) := ⟨by unfold namesF; rw [HBH.out, if_pos rfl]⟩
  rw [HK.out] at HL
  have X1 := Aside0.mk x1
  have Y0 := Aside0.mk y0
  have G4 := Aside0.mk g4
  rw [HK.out]
  generalize rdN ns n = xs at Y0 G4 HL l4
  replace p1 := eq_true p1
  replace q1 := eq_true q1
  clear hC x0 x1 y0 g4 HK l4
  go_enter Try.func19, Try.ntmps19
  go_wp2_with (first | (go_at_call 35; refine (has_ _ ks ns n _ (HT.out.below (by repeat (first | (with_reducible first | exact HM.out | apply below_alloc | apply pw_below_drewN | apply below_drew1) | exact HM.out)))).mono ?_; rintro e w2 ⟨rfl, hb⟩; rw [HBH.out]; have n_ := Aside0.mk (below_step (by repeat (first | (with_reducible first | exact HM.out | apply below_alloc | apply pw_below_drewN | apply below_drew1) | exact HM.out)) hb); clear HM; have HM := n_; clear n_ hb; have x1 := (HM.out.cell (World.block_lt_of_cell? w _ X1.out)).trans X1.out; have y0 := (HM.out.cell (World.block_lt_of_cell? w _ Y0.out)).trans Y0.out) | (go_at_call 32; refine (clone_ A4 c4 xs _ (Kd.C_below G4.out (by repeat (first | (with_reducible first | exact HM.out | apply below_alloc | apply pw_below_drewN | apply below_drew1) | exact HM.out))) HL.out).mono ?_; rintro e w3 ⟨v3, rfl, hr, hb⟩; have HR := Aside0.mk (Kd.R_lower hr (below_size (by repeat (first | (with_reducible first | exact HM.out | apply below_alloc | apply pw_below_drewN | apply below_drew1) | exact HM.out)))); have n_ := Aside0.mk (below_step (by repeat (first | (with_reducible first | exact HM.out | apply below_alloc | apply pw_below_drewN | apply below_drew1) | exact HM.out)) hb); clear HM; have HM := n_; clear n_ hb; clear hr; obtain ⟨A5, c5, ev⟩ := Kd.R_slice HR.out; subst ev))
  go_ret
  exact ⟨_, rfl, HR.out, HM.out⟩
inductive ChainK (ks : List S39) : Int → List Int → Prop
 | nil : ChainK ks (-1) []
 | cons {k : Int} {l : List Int} : hasB ks k = true → ChainK ks (rd_T39 ks k).f6 l → ChainK ks k (k :: l)
theorem has_ne {ks : List S39} {k : Int} (h : hasB ks k = true) : k ≠ -1 := by
 have := hasB_t h
 omega
set_option maxHeartbeats 8000000 in
set_option maxRecDepth 100000 in
theorem kids_ (p : Option Addr) (ks : List S39) (ns : List (List Int)) (n : Int) (l : List Int) (w : World) (h : TreeP w p ks ns) (hl : l.length ≤ 1000000) (h1 : hasB ks n = true → ChainK ks (rd_T39 ks n).f5 l) (h0 : hasB ks n = false → l = []) :
  Calls Try.prog 16 #[.pointer p, .int .i64 n] w fun e w' => ∃ v, e = .returned v ∧ Kd.R (Kd.int .i64) 3 w' w.heap.size (fun _ => True) v l ∧ Below w.heap.size w w' := by
 have HT := Aside0.mk h
 have HL := Aside0.mk hl
 have HM := Aside0.mk (Below.refl w.heap.size w)
 obtain ⟨bh, hbh⟩ : ∃ b, hasB ks n = b := ⟨_, rfl⟩
 have HBH := Aside0.mk hbh
 clear h hl hbh
 cases bh with
 | false =>
  obtain rfl := h0 HBH.out
  clear h0 h1
  go_enter Try.func16, Try.ntmps16
  go_wp2_with (first | (go_at_call 35; refine (has_ _ ks ns n _ (HT.out.below (by repeat (first | (with_reducible first | exact HM.out | apply below_alloc | apply pw_below_drewN | apply below_drew1) | exact HM.out)))).mono ?_; rintro e w2 ⟨rfl, hb⟩; rw [HBH.out]; have n_ := Aside0.mk (below_step (by repeat (first | (with_reducible first | exact HM.out | apply below_alloc | apply pw_below_drewN | apply below_drew1) | exact HM.out)) hb); clear HM; have HM := n_; clear n_ hb))
  go_ret
  exact ⟨_, rfl, Kd.R_nil _ _ _ _ _, HM.out⟩
 | true =>
  have CH := Aside0.mk (h1 HBH.out)
  obtain ⟨p1, q1⟩ := hasB_t HBH.out
  obtain ⟨g, A0, c0, A1, c1, rfl, x0, x1, hC, _⟩ := HT.out.at_ (by omega)
  obtain ⟨ad, rfl, y0, y1, y2, y3, y4, y5, y6⟩ := at_T39 hC n p1 q1
  have X0 := Aside0.mk x0
  have Y5 := Aside0.mk y5
  have HC := Aside0.mk hC
  have FX : Aside0 (∃ f, (rd_T39 ks n).f5 = f) := ⟨⟨_, rfl⟩⟩
  obtain ⟨f, hf⟩ := FX.out
  rw [hf] at Y5 CH
  replace p1 := eq_true p1
  replace q1 := eq_true q1
  clear hC x0 x1 y0 y1 y2 y3 y4 y5 y6 h0 h1 hf FX
  go_enter Try.func16, Try.ntmps16
  go_wp2_with (first | (go_at_call 35; refine (has_ _ ks ns n _ (HT.out.below (by repeat (first | (with_reducible first | exact HM.out | apply below_alloc | apply pw_below_drewN | apply below_drew1) | exact HM.out)))).mono ?_; rintro e w2 ⟨rfl, hb⟩; rw [HBH.out]; have n_ := Aside0.mk (below_step (by repeat (first | (with_reducible first | exact HM.out | apply below_alloc | apply pw_below_drewN | apply below_drew1) | exact HM.out)) hb); clear HM; have HM := n_; clear n_ hb; have x0 := (HM.out.cell (World.block_lt_of_cell? w _ X0.out)).trans X0.out; have y5 := (HM.out.cell (World.block_lt_of_cell? w _ Y5.out)).trans Y5.out))
  clear x0 y5
  go_loopg [5, 6] (l.length + 1) (fun kq v5 v6 w' => ∃ (dn rs : List Int) (kk : Int), v6 = .int .i64 kk ∧ Aside0 (kq = rs.length + 1 ∧ dn ++ rs = l) ∧ Aside0 (ChainK ks kk rs) ∧ Aside0 (Kd.R (Kd.int .i64) 3 w' w.heap.size (fun _ => True) v5 dn) ∧ Aside0 (Below w.heap.size w w'))
  case atStart => exact ⟨[], l, f, rfl, ⟨⟨rfl, rfl⟩⟩, CH, ⟨Kd.R_nil _ _ _ _ _⟩, HM⟩
  case round =>
   clear HM CH
   obtain ⟨dn, rs, kk, rfl, HK, CH, HR, HM⟩ := hrel
   cases gk with
   | zero => have := HK.out; omega
   | succ k1 =>
    by_cases ce : kk = -1
    ·have hc := CH.out
     subst ce
     cases hc with
     | cons hh _ => exact absurd rfl (has_ne hh)
     | nil =>
      go_wp2
      go_ret
      exact ⟨_, rfl, by have h_ := HK.out.2; rw [List.append_nil] at h_; exact h_ ▸ HR.out, HM.out⟩
    ·have hc := CH.out
     cases hc with
     | nil => exact absurd rfl ce
     | cons hh hr =>
      rename_i rs2
      have cb : (kk != -1) = true := by rw [bne_iff_ne]; exact ce
      obtain ⟨p2, q2⟩ := hasB_t hh
      obtain ⟨ad2, eA, z0, z1, z2, z3, z4, z5, z6⟩ := at_T39 HC.out kk p2 q2
      cases eA
      have CR := Aside0.mk hr
      have Z6 := Aside0.mk z6
      have F2 : Aside0 (∃ f, (rd_T39 ks kk).f6 = f) := ⟨⟨_, rfl⟩⟩
      obtain ⟨f2, hf2⟩ := F2.out
      rw [hf2] at Z6 CR
      have LD : Aside0 (dn.length ≤ 1000000) := ⟨by have h_ := HK.out.2; have h2_ := congrArg List.length h_; rw [List.length_append] at h2_; have := HL.out; omega⟩
      replace p2 := eq_true p2
      replace q2 := eq_true q2
      clear hh hr z0 z1 z2 z3 z4 z5 z6 hf2 F2 CH
      go_wp2_with (first | ((with_reducible refine gate_builtin (b := .append) (xs := #[.tmp 29, .tmp 31]) rfl ?_); at_builtin; refine Kd.R_append (Kd.int .i64) (w0 := w) w.heap.size rfl (.tmp 29) (.tmp 31) 22 3 (.int .i64 0) 8 rfl Try.underlying22 info3 rfl (by decide) (by omega) u5 dn kk [.int .i64 kk] (fun _ => True) (fun _ => False) rfl (by first | (go_simp; done) | (go_simp; rfl)) ?aP (fun _ hk => hk.elim) ?aF ?aO ?aB ?aS ?aL ?_; (case aP => exact rfl); (case aF => exact (fun _ _ => trivial)); (case aO => exact (by (with_reducible repeat (first | apply Kd.R_alloc | apply Kd.R_drewN | apply Kd.R_drew)); exact HR.out)); (case aB => exact (by repeat (first | (with_reducible first | exact HM.out | apply below_alloc | apply pw_below_drewN | apply below_drew1) | exact HM.out))); (case aS => exact (below_size (by repeat (first | (with_reducible first | exact HM.out | apply below_alloc | apply pw_below_drewN | apply below_drew1) | exact HM.out)))); (case aL => have := LD.out; omega); intro v6 w6 ho6 hb6 hg6 hat6; have HO6 := Aside0.mk ho6; have HM6 := Aside0.mk hb6; clear ho6 hb6 hg6 hat6; have x0 := (HM6.out.cell (World.block_lt_of_cell? w _ X0.out)).trans X0.out; have z6 := (HM6.out.cell (World.block_lt_of_cell? w _ Z6.out)).trans Z6.out))
      go_roundg k1
      case measure => omega
      case rel => exact ⟨dn ++ [kk], rs2, f2, rfl, ⟨⟨by have h_ := HK.out.1; rw [List.length_cons] at h_; omega, by have h_ := HK.out.2; rw [List.append_assoc]; exact h_⟩⟩, CR, HO6, HM6⟩
inductive PathK (ks : List S39) : Int → List Int → Prop
 | nil {n : Int} : hasB ks n = false → PathK ks n []
 | cons {n : Int} {l : List Int} : hasB ks n = true → PathK ks (rd_T39 ks n).f4 l → PathK ks n (n :: l)
set_option maxHeartbeats 8000000 in
set_option maxRecDepth 100000 in
theorem path_ (p : Option Addr) (ks : List S39) (ns : List (List Int)) (n : Int) (l : List Int) (w : World) (h : TreeP w p ks ns) (hl : l.length ≤ 1000000) (h1 : PathK ks n l) :
  Calls Try.prog 21 #[.pointer p, .int .i64 n] w fun e w' => ∃ v, e = .returned v ∧ Kd.R (Kd.int .i64) 3 w' w.heap.size (fun _ => True) v l ∧ Below w.heap.size w w' := by
 have HT := Aside0.mk h
 have HL := Aside0.mk hl
 have HM := Aside0.mk (Below.refl w.heap.size w)
 have CH := Aside0.mk h1
 clear h hl h1
 go_enter Try.func21, Try.ntmps21
 go_wp2
 go_loopg [1, 5] (l.length + 1) (fun kq v1 v5 w' => ∃ (dn rs : List Int) (nn : Int), v1 = .int .i64 nn ∧ Aside0 (kq = rs.length + 1 ∧ dn ++ rs = l) ∧ Aside0 (PathK ks nn rs) ∧ Aside0 (Kd.R (Kd.int .i64) 3 w' w.heap.size (fun _ => True) v5 dn) ∧ Aside0 (Below w.heap.size w w'))
 case atStart => exact ⟨[], l, n, rfl, ⟨⟨rfl, rfl⟩⟩, CH, ⟨Kd.R_nil _ _ _ _ _⟩, HM⟩
 case round =>
  clear HM CH
  obtain ⟨dn, rs, nn, rfl, HK, CH, HR, HM⟩ := hrel
  cases gk with
  | zero => have := HK.out; omega
  | succ k1 =>
   have hc := CH.out
   cases hc with
   | nil hf =>
    have HBH := Aside0.mk hf
    clear hf
    go_wp2_with (first | (go_at_call 35; refine (has_ _ ks ns nn _ (HT.out.below (by repeat (first | (with_reducible first | exact HM.out | apply below_alloc | apply pw_below_drewN | apply below_drew1) | exact HM.out)))).mono ?_; rintro e w2 ⟨rfl, hb⟩; rw [HBH.out]; have HR2 := Aside0.mk (Kd.R_below HR.out hb); have n_ := Aside0.mk (below_step (by repeat (first | (with_reducible first | exact HM.out | apply below_alloc | apply pw_below_drewN | apply below_drew1) | exact HM.out)) hb); clear HM; have HM := n_; clear n_ hb))
    go_ret
    exact ⟨_, rfl, by have h_ := HK.out.2; rw [List.append_nil] at h_; exact h_ ▸ HR2.out, HM.out⟩
   | cons hh hr =>
    rename_i rs2
    obtain ⟨p2, q2⟩ := hasB_t hh
    have HBH := Aside0.mk hh
    obtain ⟨g, A0, c0, A1, c1, rfl, x0, x1, hC, _⟩ := HT.out.at_ (by omega)
    obtain ⟨ad, eA, z0, z1, z2, z3, z4, z5, z6⟩ := at_T39 hC nn p2 q2
    cases eA
    have CR := Aside0.mk hr
    have X0 := Aside0.mk x0
    have Z4 := Aside0.mk z4
    have F2 : Aside0 (∃ f, (rd_T39 ks nn).f4 = f) := ⟨⟨_, rfl⟩⟩
    obtain ⟨f2, hf2⟩ := F2.out
    rw [hf2] at Z4 CR
    have LD : Aside0 (dn.length ≤ 1000000) := ⟨by have h_ := HK.out.2; have h2_ := congrArg List.length h_; rw [List.length_append] at h2_; have := HL.out; omega⟩
    replace p2 := eq_true p2
    replace q2 := eq_true q2
    clear hh hr x0 x1 z0 z1 z2 z3 z4 z5 z6 hf2 F2 CH hC
    go_wp2_with (first | (go_at_call 35; refine (has_ _ ks ns nn _ (HT.out.below (by repeat (first | (with_reducible first | exact HM.out | apply below_alloc | apply pw_below_drewN | apply below_drew1) | exact HM.out)))).mono ?_; rintro e w2 ⟨rfl, hb⟩; rw [HBH.out]; have HR2 := Aside0.mk (Kd.R_below HR.out hb); have n_ := Aside0.mk (below_step (by repeat (first | (with_reducible first | exact HM.out | apply below_alloc | apply pw_below_drewN | apply below_drew1) | exact HM.out)) hb); clear HM; have HM := n_; clear n_ hb) | ((with_reducible refine gate_builtin (b := .append) (xs := #[.tmp 9, .tmp 11]) rfl ?_); at_builtin; refine Kd.R_append (Kd.int .i64) (w0 := w) w.heap.size rfl (.tmp 9) (.tmp 11) 22 3 (.int .i64 0) 8 rfl Try.underlying22 info3 rfl (by decide) (by omega) u5 dn nn [.int .i64 nn] (fun _ => True) (fun _ => False) rfl (by first | (go_simp; done) | (go_simp; rfl)) ?aP (fun _ hk => hk.elim) ?aF ?aO ?aB ?aS ?aL ?_; (case aP => exact rfl); (case aF => exact (fun _ _ => trivial)); (case aO => exact (by (with_reducible repeat (first | apply Kd.R_alloc | apply Kd.R_drewN | apply Kd.R_drew)); exact HR2.out)); (case aB => exact (by repeat (first | (with_reducible first | exact HM.out | apply below_alloc | apply pw_below_drewN | apply below_drew1) | exact HM.out))); (case aS => exact (below_size (by repeat (first | (with_reducible first | exact HM.out | apply below_alloc | apply pw_below_drewN | apply below_drew1) | exact HM.out)))); (case aL => have := LD.out; omega); intro v6 w6 ho6 hb6 hg6 hat6; have HO6 := Aside0.mk ho6; have HM6 := Aside0.mk hb6; clear ho6 hb6 hg6 hat6; have x0 := (HM6.out.cell (World.block_lt_of_cell? w _ X0.out)).trans X0.out; have z4 := (HM6.out.cell (World.block_lt_of_cell? w _ Z4.out)).trans Z4.out))
    go_roundg k1
    case measure => omega
    case rel => exact ⟨dn ++ [nn], rs2, f2, rfl, ⟨⟨by have h_ := HK.out.1; rw [List.length_cons] at h_; omega, by have h_ := HK.out.2; rw [List.append_assoc]; exact h_⟩⟩, CR, HO6, HM6⟩
set_option maxHeartbeats 8000000 in
set_option maxRecDepth 100000 in
theorem deep_ (p : Option Addr) (ks : List S39) (ns : List (List Int)) (n : Int) (l : List Int) (w : World) (h : TreeP w p ks ns) (hl : l.length ≤ 1000000) (h1 : PathK ks n l) :
  Calls Try.prog 20 #[.pointer p, .int .i64 n] w fun e w' => e = .returned (.int .i64 (l.length : Int)) ∧ Below w.heap.size w w' := by
 have HT := Aside0.mk h
 have HL := Aside0.mk hl
 have HM := Aside0.mk (Below.refl w.heap.size w)
 have CH := Aside0.mk h1
 clear h hl h1
 go_enter Try.func20, Try.ntmps20
 go_wp2_with (first | (go_at_call 21; refine (path_ p ks ns n l _ (HT.out.below (by repeat (first | (with_reducible first | exact HM.out | apply below_alloc | apply pw_below_drewN | apply below_drew1) | exact HM.out))) HL.out CH.out).mono ?_; rintro e w3 ⟨v3, rfl, hr, hb⟩; have n_ := Aside0.mk (below_step (by repeat (first | (with_reducible first | exact HM.out | apply below_alloc | apply pw_below_drewN | apply below_drew1) | exact HM.out)) hb); clear HM; have HM := n_; clear n_ hb; obtain ⟨A5, c5, ev⟩ := Kd.R_slice hr; subst ev; clear hr))
 go_ret
 exact ⟨rfl, HM.out⟩
end Go.Proofs.Ytemdnmidhmddlaa.Tree
