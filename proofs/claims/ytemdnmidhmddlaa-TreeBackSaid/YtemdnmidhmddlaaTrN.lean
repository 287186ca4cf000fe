/- A tree that is none has nothing: TreeNil, walked. Conditions: none. -/
import Derived.Test.YtemdnmidhmddlaaTrH
import Derived.Test.YtemdnmidhmddlaaPAllx11
namespace Go.Proofs.Ytemdnmidhmddlaa.Tree
open Go Go.RowKit Go.Proofs.YtemdnmidhmddlaaW.PrintWords Go.Proofs.YtemdnmidhmddlaaW.PrintLast Go.Proofs.YtemdnmidhmddlaaW.PrintMore Go.Proofs.Ytemdnmidhmddlaa.PAll
set_option linter.unusedVariables false
set_option linter.unusedSimpArgs false
theorem eqA39 (d : Nat) (w : World) (a0 a1 a2 a3 a4 a5 a6 b0 b1 b2 b3 b4 b5 b6 : Int) :
  (Op.equalIn (d + 2) 39 (.agg #[.int .i64 a0, .int .i64 a1, .int .i64 a2, .int .i64 a3, .int .i64 a4, .int .i64 a5, .int .i64 a6]) (.agg #[.int .i64 b0, .int .i64 b1, .int .i64 b2, .int .i64 b3, .int .i64 b4, .int .i64 b5, .int .i64 b6])).run Try.prog w = .ok (a0 == b0 && (a1 == b1 && (a2 == b2 && (a3 == b3 && (a4 == b4 && (a5 == b5 && (a6 == b6))))))) w := by
 refine eqA_of Try.underlying39 (by kernel_rfl) ?_
 refine eqf_cons (by rfl) (by go_simp; rfl) (by go_simp; rfl) (by go_simp) ?_
 refine eqf_cons (by rfl) (by go_simp; rfl) (by go_simp; rfl) (by go_simp) ?_
 refine eqf_cons (by rfl) (by go_simp; rfl) (by go_simp; rfl) (by go_simp) ?_
 refine eqf_cons (by rfl) (by go_simp; rfl) (by go_simp; rfl) (by go_simp) ?_
 refine eqf_cons (by rfl) (by go_simp; rfl) (by go_simp; rfl) (by go_simp) ?_
 refine eqf_cons (by rfl) (by go_simp; rfl) (by go_simp; rfl) (by go_simp) ?_
 exact eqf_last (by rfl) (by go_simp; rfl) (by go_simp; rfl) (by go_simp)
attribute [local go_sem high] eqA39
theorem hasB_nil (n : Int) : hasB [] n = false := decide_eq_false (fun h => by have h1 := h.1; have h2 := h.2; rw [List.length_nil] at h2; omega)
def zeroB : Value := .agg #[.int .i64 0, .int .i64 0, .int .i64 0, .int .i64 0, .slice none 0 0, .slice none 0 0]
set_option maxHeartbeats 8000000 in
set_option maxRecDepth 100000 in
theorem branchNil (n : Int) (w : World) : Calls Try.prog 23 #[.pointer none, .int .i64 n] w fun e w' => e = .returned zeroB ∧ Below w.heap.size w w' := by
 have HM := Aside0.mk (Below.refl w.heap.size w)
 have hu39 := Try.underlying39
 have hu25 := Try.underlying25
 have EK : Aside0 (knotV (knotF [] n) = .agg #[.int .i64 0, .int .i64 0, .int .i64 0, .int .i64 0, .int .i64 0, .int .i64 0, .int .i64 0] ∧ hasB [] n = false) := ⟨by unfold knotF; rw [hasB_nil, if_neg (by decide)]; exact ⟨rfl, rfl⟩⟩
 go_enter Try.func23, Try.ntmps23
 go_upto_region 1 with (first | ((with_reducible refine gate_dst (N := 4) rfl ?_); refine box_event ?hg (N := 4) ?hd (cs := #[.int .i64 0, .int .i64 0, .int .i64 0, .int .i64 0, .slice none 0 0, .slice none 0 0]) (t := 25) ?hr ?_; (case hd => rfl); (case hg => rfl); (case hr => first | (go_simp; done) | (go_simp; rfl)); intro g4 hg w_g4 hbox hb; have Bg4 := Aside0.mk hbox; have Gg4 := Aside0.mk ((by rw [hg]; exact (below_size (by repeat (first | (with_reducible first | exact HM.out | apply below_alloc | apply pw_below_drewN | apply below_drew1) | exact HM.out)))) : w.heap.size ≤ g4); have n_ := Aside0.mk (below_step (by repeat (first | (with_reducible first | exact HM.out | apply below_alloc | apply pw_below_drewN | apply below_drew1) | exact HM.out)) hb); clear HM; have HM := n_; clear n_ hb; clear hg hbox; have cg4_0 : w_g4.cell? ⟨g4, 0, none⟩ = some (.int .i64 0) := (blk_cell Bg4.out 0).trans rfl; have fg4_0 := blk_frozen Bg4.out 0; have cg4_1 : w_g4.cell? ⟨g4, 1, none⟩ = some (.int .i64 0) := (blk_cell Bg4.out 1).trans rfl; have fg4_1 := blk_frozen Bg4.out 1; have cg4_2 : w_g4.cell? ⟨g4, 2, none⟩ = some (.int .i64 0) := (blk_cell Bg4.out 2).trans rfl; have fg4_2 := blk_frozen Bg4.out 2; have cg4_3 : w_g4.cell? ⟨g4, 3, none⟩ = some (.int .i64 0) := (blk_cell Bg4.out 3).trans rfl; have fg4_3 := blk_frozen Bg4.out 3; have cg4_4 : w_g4.cell? ⟨g4, 4, none⟩ = some (.slice none 0 0) := (blk_cell Bg4.out 4).trans rfl; have fg4_4 := blk_frozen Bg4.out 4; have cg4_5 : w_g4.cell? ⟨g4, 5, none⟩ = some (.slice none 0 0) := (blk_cell Bg4.out 5).trans rfl; have fg4_5 := blk_frozen Bg4.out 5))
 clear cg4_0 fg4_0 cg4_1 fg4_1 cg4_2 fg4_2 cg4_3 fg4_3 cg4_4 fg4_4 cg4_5 fg4_5
 go_upto_region 2 with (first | (go_at_call 17; refine (knot_ none [] [] n _ (TreeP.none_ _)).mono ?_; rintro e w2 ⟨rfl, hb⟩; rw [EK.out.1, EK.out.2]; have n1_ := Aside0.mk (blk_below Bg4.out hb); clear Bg4; have Bg4 := n1_; clear n1_; have n_ := Aside0.mk (below_step (by repeat (first | (with_reducible first | exact HM.out | apply below_alloc | apply pw_below_drewN | apply below_drew1) | exact HM.out)) hb); clear HM; have HM := n_; clear n_ hb) | ((with_reducible refine gate_dst (N := 5) rfl ?_); refine box_event ?hg (N := 5) ?hd (cs := #[.int .i64 0, .int .i64 0, .int .i64 0, .int .i64 0, .int .i64 0, .int .i64 0, .int .i64 0]) (t := 39) ?hr ?_; (case hd => rfl); (case hg => rfl); (case hr => first | (go_simp; done) | (go_simp; rfl)); intro g5 hg w_g5 hbox hb; have Bg5 := Aside0.mk hbox; have Gg5 := Aside0.mk ((by rw [hg]; exact (below_size (by repeat (first | (with_reducible first | exact HM.out | apply below_alloc | apply pw_below_drewN | apply below_drew1) | exact HM.out)))) : w.heap.size ≤ g5); have NE := Aside0.mk (Nat.ne_of_lt (Nat.lt_of_lt_of_le (Array.getElem?_eq_some_iff.mp Bg4.out).1 (by rw [hg]; exact Nat.le_refl _)) : g4 ≠ g5); have n1_ := Aside0.mk (blk_below Bg4.out hb); clear Bg4; have Bg4 := n1_; clear n1_; have n_ := Aside0.mk (below_step (by repeat (first | (with_reducible first | exact HM.out | apply below_alloc | apply pw_below_drewN | apply below_drew1) | exact HM.out)) hb); clear HM; have HM := n_; clear n_ hb; clear hg hbox; have cg5_0 : w_g5.cell? ⟨g5, 0, none⟩ = some (.int .i64 0) := (blk_cell Bg5.out 0).trans rfl; have fg5_0 := blk_frozen Bg5.out 0; have cg5_1 : w_g5.cell? ⟨g5, 1, none⟩ = some (.int .i64 0) := (blk_cell Bg5.out 1).trans rfl; have fg5_1 := blk_frozen Bg5.out 1; have cg5_2 : w_g5.cell? ⟨g5, 2, none⟩ = some (.int .i64 0) := (blk_cell Bg5.out 2).trans rfl; have fg5_2 := blk_frozen Bg5.out 2; have cg5_3 : w_g5.cell? ⟨g5, 3, none⟩ = some (.int .i64 0) := (blk_cell Bg5.out 3).trans rfl; have fg5_3 := blk_frozen Bg5.out 3; have cg5_4 : w_g5.cell? ⟨g5, 4, none⟩ = some (.int .i64 0) := (blk_cell Bg5.out 4).trans rfl; have fg5_4 := blk_frozen Bg5.out 4; have cg5_5 : w_g5.cell? ⟨g5, 5, none⟩ = some (.int .i64 0) := (blk_cell Bg5.out 5).trans rfl; have fg5_5 := blk_frozen Bg5.out 5; have cg5_6 : w_g5.cell? ⟨g5, 6, none⟩ = some (.int .i64 0) := (blk_cell Bg5.out 6).trans rfl; have fg5_6 := blk_frozen Bg5.out 6))
 have BX := Aside0.mk (blk_far (p := ⟨g5, 6, none⟩) (blk_far (p := ⟨g5, 5, none⟩) (blk_far (p := ⟨g5, 4, none⟩) (blk_far (p := ⟨g5, 3, none⟩) (blk_far (p := ⟨g5, 2, none⟩) (blk_far (p := ⟨g5, 1, none⟩) (blk_far (p := ⟨g5, 0, none⟩) Bg4.out NE.out (.int .i64 0)) NE.out (.int .i64 0)) NE.out (.int .i64 0)) NE.out (.int .i64 0)) NE.out (.int .i64 0)) NE.out (.int .i64 0)) NE.out (.int .i64 0))
 have n_ := Aside0.mk (below_set (below_set (below_set (below_set (below_set (below_set (below_set HM.out Gg5.out (v := .int .i64 0) (j := 0)) Gg5.out (v := .int .i64 0) (j := 1)) Gg5.out (v := .int .i64 0) (j := 2)) Gg5.out (v := .int .i64 0) (j := 3)) Gg5.out (v := .int .i64 0) (j := 4)) Gg5.out (v := .int .i64 0) (j := 5)) Gg5.out (v := .int .i64 0) (j := 6))
 clear HM
 have HM := n_
 clear n_ Bg5 NE Bg4 cg5_0 fg5_0 cg5_1 fg5_1 cg5_2 fg5_2 cg5_3 fg5_3 cg5_4 fg5_4 cg5_5 fg5_5 cg5_6 fg5_6
 generalize (((((((w_g5.setCell ⟨g5, 0, none⟩ (.int .i64 0)).setCell ⟨g5, 1, none⟩ (.int .i64 0)).setCell ⟨g5, 2, none⟩ (.int .i64 0)).setCell ⟨g5, 3, none⟩ (.int .i64 0)).setCell ⟨g5, 4, none⟩ (.int .i64 0)).setCell ⟨g5, 5, none⟩ (.int .i64 0)).setCell ⟨g5, 6, none⟩ (.int .i64 0)) = w3 at BX HM ⊢
 have Bg4 := BX
 have d0 : w3.cell? ⟨g4, 0, none⟩ = some (.int .i64 0) := (blk_cell Bg4.out 0).trans rfl
 have e0 := blk_frozen Bg4.out 0
 have d1 : w3.cell? ⟨g4, 1, none⟩ = some (.int .i64 0) := (blk_cell Bg4.out 1).trans rfl
 have e1 := blk_frozen Bg4.out 1
 have d2 : w3.cell? ⟨g4, 2, none⟩ = some (.int .i64 0) := (blk_cell Bg4.out 2).trans rfl
 have e2 := blk_frozen Bg4.out 2
 have d3 : w3.cell? ⟨g4, 3, none⟩ = some (.int .i64 0) := (blk_cell Bg4.out 3).trans rfl
 have e3 := blk_frozen Bg4.out 3
 have d4 : w3.cell? ⟨g4, 4, none⟩ = some (.slice none 0 0) := (blk_cell Bg4.out 4).trans rfl
 have e4 := blk_frozen Bg4.out 4
 have d5 : w3.cell? ⟨g4, 5, none⟩ = some (.slice none 0 0) := (blk_cell Bg4.out 5).trans rfl
 have e5 := blk_frozen Bg4.out 5
 go_wp2
 refine bodyPost_ret (results_single (r := .cell 4 25) rfl (.cell g4 25 #[.int .i64 0, .int .i64 0, .int .i64 0, .int .i64 0, .slice none 0 0, .slice none 0 0] (0, 0) _ rfl (blk_put (blk_put (blk_put (blk_put (blk_put (blk_put BX.out 0 (.int .i64 0) rfl) 1 (.int .i64 0) rfl) 2 (.int .i64 0) rfl) 3 (.int .i64 0) rfl) 4 (.slice none 0 0) rfl) 5 (.slice none 0 0) rfl) Try.underlying25 rfl (by kernel_rfl) .nil)) rfl ?_
 exact ⟨rfl, (below_set (below_set (below_set (below_set (below_set (below_set HM.out Gg4.out (v := .int .i64 0) (j := 0)) Gg4.out (v := .int .i64 0) (j := 1)) Gg4.out (v := .int .i64 0) (j := 2)) Gg4.out (v := .int .i64 0) (j := 3)) Gg4.out (v := .slice none 0 0) (j := 4)) Gg4.out (v := .slice none 0 0) (j := 5))⟩
theorem same_zero (w : World) : Calls Try.prog 22 #[zeroB, zeroB] w fun e w' => e = .returned (.bool true) ∧ Below w.heap.size w w' :=
 orielref06_Same.calls 6 0 0 0 0 none 0 [] none 0 [] 0 0 0 0 none 0 [] none 0 [] true w (Kd.C_nil _ _) (Nat.le_refl _) (Kd.C_nil _ _) (Nat.le_refl _) (Kd.C_nil _ _) (Nat.le_refl _) (Kd.C_nil _ _) (Nat.le_refl _) (by rfl)
end Go.Proofs.Ytemdnmidhmddlaa.Tree
namespace Go.Proofs.Ytemdnmidhmddlaa.TreeNil
open Go Go.RowKit Go.Proofs.YtemdnmidhmddlaaW.PrintWords Go.Proofs.YtemdnmidhmddlaaW.PrintLast Go.Proofs.YtemdnmidhmddlaaW.PrintMore Go.Proofs.Ytemdnmidhmddlaa.PAll Go.Proofs.Ytemdnmidhmddlaa.Tree
set_option linter.unusedVariables false
set_option linter.unusedSimpArgs false
attribute [local go_sem high] eqA39
set_option maxHeartbeats 8000000 in
set_option maxRecDepth 100000 in
theorem law (n : Int) (w : World) : Calls Try.prog 6 #[.int .i64 n] w fun e w' => e = .returned (.bool true) ∧ Below w.heap.size w w' := by
 have HM := Aside0.mk (Below.refl w.heap.size w)
 have hu39 := Try.underlying39
 have EK : Aside0 (knotV (knotF [] n) = .agg #[.int .i64 0, .int .i64 0, .int .i64 0, .int .i64 0, .int .i64 0, .int .i64 0, .int .i64 0] ∧ hasB [] n = false) := ⟨by unfold knotF; rw [hasB_nil, if_neg (by decide)]; exact ⟨rfl, rfl⟩⟩
 have EN : Aside0 (namesF [] [] n = []) := ⟨by unfold namesF; rw [hasB_nil, if_neg (by decide)]⟩
 have EP : Aside0 (PathK [] n []) := ⟨.nil (hasB_nil n)⟩
 have LT : Aside0 (hasB [] n = true → False) := ⟨fun h => by rw [hasB_nil] at h; cases h⟩
 go_enter Try.func6, Try.ntmps6
 go_upto_region 3 with (first | (go_at_call 17; refine (knot_ none [] [] n _ (TreeP.none_ _)).mono ?_; rintro e w2 ⟨rfl, hb⟩; rw [EK.out.1, EK.out.2]; have n_ := Aside0.mk (below_step (by repeat (first | (with_reducible first | exact HM.out | apply below_alloc | apply pw_below_drewN | apply below_drew1) | exact HM.out)) hb); clear HM; have HM := n_; clear n_ hb) | ((with_reducible refine gate_dst (N := 4) rfl ?_); refine box_event ?hg (N := 4) ?hd (cs := #[.int .i64 0, .int .i64 0, .int .i64 0, .int .i64 0, .int .i64 0, .int .i64 0, .int .i64 0]) (t := 39) ?hr ?_; (case hd => rfl); (case hg => rfl); (case hr => first | (go_simp; done) | (go_simp; rfl)); intro g4 hg w_g4 hbox hb; have Bg4 := Aside0.mk hbox; have Gg4 := Aside0.mk ((by rw [hg]; exact (below_size (by repeat (first | (with_reducible first | exact HM.out | apply below_alloc | apply pw_below_drewN | apply below_drew1) | exact HM.out)))) : w.heap.size ≤ g4); have n_ := Aside0.mk (below_step (by repeat (first | (with_reducible first | exact HM.out | apply below_alloc | apply pw_below_drewN | apply below_drew1) | exact HM.out)) hb); clear HM; have HM := n_; clear n_ hb; clear hg hbox; have cg4_0 : w_g4.cell? ⟨g4, 0, none⟩ = some (.int .i64 0) := (blk_cell Bg4.out 0).trans rfl; have fg4_0 := blk_frozen Bg4.out 0; have cg4_1 : w_g4.cell? ⟨g4, 1, none⟩ = some (.int .i64 0) := (blk_cell Bg4.out 1).trans rfl; have fg4_1 := blk_frozen Bg4.out 1; have cg4_2 : w_g4.cell? ⟨g4, 2, none⟩ = some (.int .i64 0) := (blk_cell Bg4.out 2).trans rfl; have fg4_2 := blk_frozen Bg4.out 2; have cg4_3 : w_g4.cell? ⟨g4, 3, none⟩ = some (.int .i64 0) := (blk_cell Bg4.out 3).trans rfl; have fg4_3 := blk_frozen Bg4.out 3; have cg4_4 : w_g4.cell? ⟨g4, 4, none⟩ = some (.int .i64 0) := (blk_cell Bg4.out 4).trans rfl; have fg4_4 := blk_frozen Bg4.out 4; have cg4_5 : w_g4.cell? ⟨g4, 5, none⟩ = some (.int .i64 0) := (blk_cell Bg4.out 5).trans rfl; have fg4_5 := blk_frozen Bg4.out 5; have cg4_6 : w_g4.cell? ⟨g4, 6, none⟩ = some (.int .i64 0) := (blk_cell Bg4.out 6).trans rfl; have fg4_6 := blk_frozen Bg4.out 6))
 have BX := Aside0.mk (blk_put (blk_put (blk_put (blk_put (blk_put (blk_put (blk_put Bg4.out 0 (.int .i64 0) rfl) 1 (.int .i64 0) rfl) 2 (.int .i64 0) rfl) 3 (.int .i64 0) rfl) 4 (.int .i64 0) rfl) 5 (.int .i64 0) rfl) 6 (.int .i64 0) rfl)
 have n_ := Aside0.mk (below_set (below_set (below_set (below_set (below_set (below_set (below_set HM.out Gg4.out (v := .int .i64 0) (j := 0)) Gg4.out (v := .int .i64 0) (j := 1)) Gg4.out (v := .int .i64 0) (j := 2)) Gg4.out (v := .int .i64 0) (j := 3)) Gg4.out (v := .int .i64 0) (j := 4)) Gg4.out (v := .int .i64 0) (j := 5)) Gg4.out (v := .int .i64 0) (j := 6))
 clear HM Bg4
 have HM := n_
 have Bg4 : Aside0 (((((((((w_g4.setCell ⟨g4, 0, none⟩ (.int .i64 0)).setCell ⟨g4, 1, none⟩ (.int .i64 0)).setCell ⟨g4, 2, none⟩ (.int .i64 0)).setCell ⟨g4, 3, none⟩ (.int .i64 0)).setCell ⟨g4, 4, none⟩ (.int .i64 0)).setCell ⟨g4, 5, none⟩ (.int .i64 0)).setCell ⟨g4, 6, none⟩ (.int .i64 0))).heap[g4]? = some (.cells #[.int .i64 0, .int .i64 0, .int .i64 0, .int .i64 0, .int .i64 0, .int .i64 0, .int .i64 0] 39 (0, 0))) := ⟨BX.out⟩
 clear n_ BX cg4_0 fg4_0 cg4_1 fg4_1 cg4_2 fg4_2 cg4_3 fg4_3 cg4_4 fg4_4 cg4_5 fg4_5 cg4_6 fg4_6
 generalize (((((((w_g4.setCell ⟨g4, 0, none⟩ (.int .i64 0)).setCell ⟨g4, 1, none⟩ (.int .i64 0)).setCell ⟨g4, 2, none⟩ (.int .i64 0)).setCell ⟨g4, 3, none⟩ (.int .i64 0)).setCell ⟨g4, 4, none⟩ (.int .i64 0)).setCell ⟨g4, 5, none⟩ (.int .i64 0)).setCell ⟨g4, 6, none⟩ (.int .i64 0)) = w3 at Bg4 HM ⊢
 have d0 : w3.cell? ⟨g4, 0, none⟩ = some (.int .i64 0) := (blk_cell Bg4.out 0).trans rfl
 have e0 := blk_frozen Bg4.out 0
 have d1 : w3.cell? ⟨g4, 1, none⟩ = some (.int .i64 0) := (blk_cell Bg4.out 1).trans rfl
 have e1 := blk_frozen Bg4.out 1
 have d2 : w3.cell? ⟨g4, 2, none⟩ = some (.int .i64 0) := (blk_cell Bg4.out 2).trans rfl
 have e2 := blk_frozen Bg4.out 2
 have d3 : w3.cell? ⟨g4, 3, none⟩ = some (.int .i64 0) := (blk_cell Bg4.out 3).trans rfl
 have e3 := blk_frozen Bg4.out 3
 have d4 : w3.cell? ⟨g4, 4, none⟩ = some (.int .i64 0) := (blk_cell Bg4.out 4).trans rfl
 have e4 := blk_frozen Bg4.out 4
 have d5 : w3.cell? ⟨g4, 5, none⟩ = some (.int .i64 0) := (blk_cell Bg4.out 5).trans rfl
 have e5 := blk_frozen Bg4.out 5
 have d6 : w3.cell? ⟨g4, 6, none⟩ = some (.int .i64 0) := (blk_cell Bg4.out 6).trans rfl
 have e6 := blk_frozen Bg4.out 6
 go_wp2_with (first | (go_at_call 15; refine (len_ none [] [] _ (TreeP.none_ _)).mono ?_; rintro e w2 ⟨rfl, hb⟩; have n1_ := Aside0.mk (blk_below Bg4.out hb); clear Bg4; have Bg4 := n1_; clear n1_; have n_ := Aside0.mk (below_step (by repeat (first | (with_reducible first | exact HM.out | apply below_alloc | apply pw_below_drewN | apply below_drew1) | exact HM.out)) hb); clear HM; have HM := n_; clear n_ hb) | (go_at_call 19; refine (names_ none [] [] n _ (TreeP.none_ _) (by rw [EN.out]; decide)).mono ?_; rintro e w2 ⟨v1, rfl, hr, hb⟩; have n1_ := Aside0.mk (blk_below Bg4.out hb); clear Bg4; have Bg4 := n1_; clear n1_; have n_ := Aside0.mk (below_step (by repeat (first | (with_reducible first | exact HM.out | apply below_alloc | apply pw_below_drewN | apply below_drew1) | exact HM.out)) hb); clear HM; have HM := n_; clear n_ hb; rw [EN.out] at hr; obtain ⟨A1, c1, e1⟩ := Kd.R_slice hr; subst e1; clear hr) | (go_at_call 16; refine (kids_ none [] [] n [] _ (TreeP.none_ _) (by decide) (fun h => (LT.out h).elim) (fun _ => rfl)).mono ?_; rintro e w2 ⟨v2, rfl, hr, hb⟩; have n1_ := Aside0.mk (blk_below Bg4.out hb); clear Bg4; have Bg4 := n1_; clear n1_; have n_ := Aside0.mk (below_step (by repeat (first | (with_reducible first | exact HM.out | apply below_alloc | apply pw_below_drewN | apply below_drew1) | exact HM.out)) hb); clear HM; have HM := n_; clear n_ hb; obtain ⟨A2, c2, e2⟩ := Kd.R_slice hr; subst e2; clear hr) | (go_at_call 20; refine (deep_ none [] [] n [] _ (TreeP.none_ _) (by decide) EP.out).mono ?_; rintro e w2 ⟨rfl, hb⟩; have n1_ := Aside0.mk (blk_below Bg4.out hb); clear Bg4; have Bg4 := n1_; clear n1_; have n_ := Aside0.mk (below_step (by repeat (first | (with_reducible first | exact HM.out | apply below_alloc | apply pw_below_drewN | apply below_drew1) | exact HM.out)) hb); clear HM; have HM := n_; clear n_ hb) | (go_at_call 18; refine (walk_ none [] [] n [] _ (TreeP.none_ _) (by decide) (fun h => (LT.out h).elim) (fun _ => rfl)).mono ?_; rintro e w2 ⟨v3, rfl, hr, hb⟩; have n1_ := Aside0.mk (blk_below Bg4.out hb); clear Bg4; have Bg4 := n1_; clear n1_; have n_ := Aside0.mk (below_step (by repeat (first | (with_reducible first | exact HM.out | apply below_alloc | apply pw_below_drewN | apply below_drew1) | exact HM.out)) hb); clear HM; have HM := n_; clear n_ hb; obtain ⟨A3, c3, e3⟩ := Kd.R_slice hr; subst e3; clear hr) | (go_at_call 21; refine (path_ none [] [] n [] _ (TreeP.none_ _) (by decide) EP.out).mono ?_; rintro e w2 ⟨v4, rfl, hr, hb⟩; have n1_ := Aside0.mk (blk_below Bg4.out hb); clear Bg4; have Bg4 := n1_; clear n1_; have n_ := Aside0.mk (below_step (by repeat (first | (with_reducible first | exact HM.out | apply below_alloc | apply pw_below_drewN | apply below_drew1) | exact HM.out)) hb); clear HM; have HM := n_; clear n_ hb; obtain ⟨A4, c4, e4⟩ := Kd.R_slice hr; subst e4; clear hr) | (go_at_call 10; refine (within_ none [] [] n 0 (-1) _ (TreeP.none_ _) (fun h => absurd h.1 (by decide)) (fun _ => rfl)).mono ?_; rintro e w2 ⟨rfl, hb⟩; have n1_ := Aside0.mk (blk_below Bg4.out hb); clear Bg4; have Bg4 := n1_; clear n1_; have n_ := Aside0.mk (below_step (by repeat (first | (with_reducible first | exact HM.out | apply below_alloc | apply pw_below_drewN | apply below_drew1) | exact HM.out)) hb); clear HM; have HM := n_; clear n_ hb) | (go_at_call 23; refine (branchNil n _).mono ?_; rintro e w2 ⟨rfl, hb⟩; have n1_ := Aside0.mk (blk_below Bg4.out hb); clear Bg4; have Bg4 := n1_; clear n1_; have n_ := Aside0.mk (below_step (by repeat (first | (with_reducible first | exact HM.out | apply below_alloc | apply pw_below_drewN | apply below_drew1) | exact HM.out)) hb); clear HM; have HM := n_; clear n_ hb) | (go_at_call 22; refine (same_zero _).mono ?_; rintro e w2 ⟨rfl, hb⟩; have n1_ := Aside0.mk (blk_below Bg4.out hb); clear Bg4; have Bg4 := n1_; clear n1_; have n_ := Aside0.mk (below_step (by repeat (first | (with_reducible first | exact HM.out | apply below_alloc | apply pw_below_drewN | apply below_drew1) | exact HM.out)) hb); clear HM; have HM := n_; clear n_ hb) | (go_at_call 13; refine (alive _).mono ?_; rintro e w2 ⟨rfl, hb⟩; have n1_ := Aside0.mk (blk_below Bg4.out hb); clear Bg4; have Bg4 := n1_; clear n1_; have n_ := Aside0.mk (below_step (by repeat (first | (with_reducible first | exact HM.out | apply below_alloc | apply pw_below_drewN | apply below_drew1) | exact HM.out)) hb); clear HM; have HM := n_; clear n_ hb))
 go_ret
 exact ⟨rfl, HM.out⟩
end Go.Proofs.Ytemdnmidhmddlaa.TreeNil
namespace Go.Proofs.Ytemdnmidhmddlaa.PAll
open Go Go.RowKit
def oriellaw06_TreeNil.f (_a0 : Int) : Option Bool := some true
theorem oriellaw06_TreeNil.calls (a0 : Int) (r : Bool) (w : World) (h : oriellaw06_TreeNil.f a0 = some r) :
  Calls Try.prog 6 #[.int .i64 a0] w fun e w' => e = .returned (.bool r) ∧ Below w.heap.size w w' := by
 injection h with h
 subst h
 exact TreeNil.law a0 w
end Go.Proofs.Ytemdnmidhmddlaa.PAll
