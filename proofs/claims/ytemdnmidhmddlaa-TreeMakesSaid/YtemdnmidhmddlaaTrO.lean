/- Branch of a node that is none. Conditions: as the theorems say. -/
import Derived.Test.YtemdnmidhmddlaaTrN
namespace Go.Proofs.Ytemdnmidhmddlaa.Tree
open Go Go.RowKit Go.Proofs.YtemdnmidhmddlaaW.PrintWords Go.Proofs.YtemdnmidhmddlaaW.PrintLast Go.Proofs.YtemdnmidhmddlaaW.PrintMore Go.Proofs.Ytemdnmidhmddlaa.PAll
set_option linter.unusedVariables false
set_option linter.unusedSimpArgs false
set_option maxHeartbeats 8000000 in
set_option maxRecDepth 100000 in
theorem branchOut (p : Option Addr) (ks : List S39) (ns : List (List Int)) (n : Int) (w : World) (hT : TreeP w p ks ns) (hn : hasB ks n = false) : Calls Try.prog 23 #[.pointer p, .int .i64 n] w fun e w' => e = .returned zeroB ∧ Below w.heap.size w w' := by
  have HM := Aside0.mk (Below.refl w.heap.size w)
  have TT := Aside0.mk hT
  have hu39 := Try.underlying39
  have hu25 := Try.underlying25
  have EK : Aside0 (knotV (knotF ks n) = .agg #[.int .i64 0, .int .i64 0, .int .i64 0, .int .i64 0, .int .i64 0, .int .i64 0, .int .i64 0] ∧ hasB ks n = false) := ⟨by unfold knotF; rw [hn, if_neg (by decide)]; exact ⟨rfl, rfl⟩⟩
  clear hT hn
  go_enter Try.func23, Try.ntmps23
  go_upto_region 1 with (first | ((with_reducible refine gate_dst (N := 4) rfl ?_); refine box_event ?hg (N := 4) ?hd (cs := #[.int .i64 0, .int .i64 0, .int .i64 0, .int .i64 0, .slice none 0 0, .slice none 0 0]) (t := 25) ?hr ?_; (case hd => rfl); (case hg => rfl); (case hr => first | (go_simp; done) | (go_simp; rfl)); intro g4 hg w_g4 hbox hb; have Bg4 := Aside0.mk hbox; have Gg4 := Aside0.mk ((by rw [hg]; exact (below_size (by repeat (first | (with_reducible first | exact HM.out | apply below_alloc | apply pw_below_drewN | apply below_drew1) | exact HM.out)))) : w.heap.size ≤ g4); have n_ := Aside0.mk (below_step (by repeat (first | (with_reducible first | exact HM.out | apply below_alloc | apply pw_below_drewN | apply below_drew1) | exact HM.out)) hb); clear HM; have HM := n_; clear n_ hb; clear hg hbox; have cg4_0 : w_g4.cell? ⟨g4, 0, none⟩ = some (.int .i64 0) := (blk_cell Bg4.out 0).trans rfl; have fg4_0 := blk_frozen Bg4.out 0; have cg4_1 : w_g4.cell? ⟨g4, 1, none⟩ = some (.int .i64 0) := (blk_cell Bg4.out 1).trans rfl; have fg4_1 := blk_frozen Bg4.out 1; have cg4_2 : w_g4.cell? ⟨g4, 2, none⟩ = some (.int .i64 0) := (blk_cell Bg4.out 2).trans rfl; have fg4_2 := blk_frozen Bg4.out 2; have cg4_3 : w_g4.cell? ⟨g4, 3, none⟩ = some (.int .i64 0) := (blk_cell Bg4.out 3).trans rfl; have fg4_3 := blk_frozen Bg4.out 3; have cg4_4 : w_g4.cell? ⟨g4, 4, none⟩ = some (.slice none 0 0) := (blk_cell Bg4.out 4).trans rfl; have fg4_4 := blk_frozen Bg4.out 4; have cg4_5 : w_g4.cell? ⟨g4, 5, none⟩ = some (.slice none 0 0) := (blk_cell Bg4.out 5).trans rfl; have fg4_5 := blk_frozen Bg4.out 5))
  clear cg4_0 fg4_0 cg4_1 fg4_1 cg4_2 fg4_2 cg4_3 fg4_3 cg4_4 fg4_4 cg4_5 fg4_5
  go_upto_region 2 with (first | (go_at_call 17; refine (knot_ p ks ns n _ (TT.out.below (by repeat (first | (with_reducible first | exact HM.out | apply below_alloc | apply pw_below_drewN | apply below_drew1) | exact HM.out)))).mono ?_; rintro e w2 ⟨rfl, hb⟩; rw [EK.out.1, EK.out.2]; have n1_ := Aside0.mk (blk_below Bg4.out hb); clear Bg4; have Bg4 := n1_; clear n1_; have n_ := Aside0.mk (below_step (by repeat (first | (with_reducible first | exact HM.out | apply below_alloc | apply pw_below_drewN | apply below_drew1) | exact HM.out)) hb); clear HM; have HM := n_; clear n_ hb) | ((with_reducible refine gate_dst (N := 5) rfl ?_); refine box_event ?hg (N := 5) ?hd (cs := #[.int .i64 0, .int .i64 0, .int .i64 0, .int .i64 0, .int .i64 0, .int .i64 0, .int .i64 0]) (t := 39) ?hr ?_; (case hd => rfl); (case hg => rfl); (case hr => first | (go_simp; done) | (go_simp; rfl)); intro g5 hg w_g5 hbox hb; have Bg5 := Aside0.mk hbox; have Gg5 := Aside0.mk ((by rw [hg]; exact (below_size (by repeat (first | (with_reducible first | exact HM.out | apply below_alloc | apply pw_below_drewN | apply below_drew1) | exact HM.out)))) : w.heap.size ≤ g5); have NE := Aside0.mk (Nat.ne_of_lt (Nat.lt_of_lt_of_le (Array.getElem?_eq_some_iff.mp Bg4.out).1 (by rw [hg]; exact Nat.le_refl _)) : g4 ≠ g5); have n1_ := Aside0.mk (blk_below Bg4.out hb); clear Bg4; have Bg4 := n1_; clear n1_; have n_ := Aside0.mk (below_step (by repeat (first | (with_reducible first | exact HM.out | apply below_alloc | apply pw_below_drewN | apply below_drew1) | exact HM.out)) hb); clear HM; have HM := n_; clear n_ hb; clear hg hbox; have cg5_0 : w_g5.cell? ⟨g5, 0, none⟩ = some (.int .i64 0) := (blk_cell Bg5.out 0).trans rfl; have fg5_0 := blk_frozen Bg5.out 0; have cg5_1 : w_g5.cell? ⟨g5, 1, none⟩ = some (.int .i64 0) := (blk_cell Bg5.out 1).trans rfl; have fg5_1 := blk_frozen Bg5.out 1; have cg5_2 : w_g5.cell? ⟨g5, 2, none⟩ = some (.int .i64 0) := (blk_cell Bg5.out 2).trans rfl; have fg5_2 := blk_frozen Bg5.out 2; have cg5_3 : w_g5.cell? ⟨g5, 3, none⟩ = some (.int .i64 0) := (blk_cell Bg5.out 3).trans rfl; have fg5_3 := blk_frozen Bg5.out 3; have cg5_4 : w_g5.cell? ⟨g5, 4, none⟩ = some (.int .i64 0) := (blk_cell Bg5.out 4).trans rfl; have fg5_4 := blk_frozen Bg5.out 4; have cg5_5 : w_g5.cell? ⟨g5, 5, none⟩ = some (.int .i64 0) := (blk_cell Bg5.out 5).trans rfl; have fg5_5 := blk_frozen Bg5.out 5; have cg5_6 : w_g5.cell? ⟨g5, 6, none⟩ = some (.int .i64 0) := (blk_cell Bg5.out 6).trans rfl; have fg5_6 := blk_frozen Bg5.out 6))
  have BX := Aside0.mk (blk_far (p := ⟨g5, 6, none⟩) (blk_far (p := ⟨g5, 5, none⟩) (blk_far (p := ⟨g5, 4, none⟩) (blk_far (p := ⟨g5, 3, none⟩) (blk_far (p := ⟨g5, 2, none⟩) (blk_far (p := ⟨g5, 1, none⟩) (blk_far (p := ⟨g5, 0, none⟩) Bg4.out NE.out (.int .i64 0)) NE.out (.int .i64 0)) NE.out (.int .i64 0)) NE.out (.int .i64 0)) NE.out (.int .i64 0)) NE.out (.int .i64 0)) NE.out (.int .i64 0))
  have n_ := Aside0.mk (below_set (below_set (below_set (below_set (below_set (below_set (below_set HM.out Gg5.out (v := .int .i64 0) (j := 0)) Gg5.out (v := .int .i64 0) (j := 1)) Gg5.out (v := .int .i64 0) (j := 2)) Gg5.out (v := .int .i64 0) (j := 3)) Gg5.out (v := .int .i64 0) (j := 4)) Gg5.out (v := .int .i64 0) (j := 5)) Gg5.out (v := .int .i64 0) (j := 6))
  clear HM
  have HM := n_
  clear n_ Bg5 NE Bg4 cg5_0 fg5_0 cg5_1 fg5_1 cg5_2 fg5_2 cg5_3 fg5_3 cg5_4 fg5_4 cg5_5 fg5_5 cg5_6 fg5_6
  generalize (((((((w_g5.setCell ⟨g5, 0, none⟩ (.int .i64 0)).setCell ⟨g5, 1, none⟩ (.int .i64 0)).setCell ⟨g5, 2, none⟩ (.int .i64 0)).setCell ⟨g5, 3, none⟩ (.int .i64 0)).setCell ⟨g5, 4, none⟩ (.int .i64 0)).setCell ⟨g5, 5, none⟩ (.int .i64 0)).setCell ⟨g5, 6, none⟩ (.int .i64 0)) = w3 at BX HM ⊢
  have Bg4 := BX
  have d0 : w3.cell? ⟨g4, 0, none⟩ = some (.int .i64 0) := (blk_cell Bg4.out 0).trans rfl
  have e0 := blk_frozen Bg4.out 0
  have d1 : w3.cell? ⟨g4, 1, none⟩ = some (.int .i64 0) := (blk_cell Bg4.out 1).trans rfl
  have e1 := blk_frozen Bg4.out 1
  have d2 : w3.cell? ⟨g4, 2, none⟩ = some (.int .i64 0) := (blk_cell Bg4.out 2).trans rfl
  have e2 := blk_frozen Bg4.out 2
  have d3 : w3.cell? ⟨g4, 3, none⟩ = some (.int .i64 0) := (blk_cell Bg4.out 3).trans rfl
  have e3 := blk_frozen Bg4.out 3
  have d4 : w3.cell? ⟨g4, 4, none⟩ = some (.slice none 0 0) := (blk_cell Bg4.out 4).trans rfl
  have e4 := blk_frozen Bg4.out 4
  have d5 : w3.cell? ⟨g4, 5, none⟩ = some (.slice none 0 0) := (blk_cell Bg4.out 5).trans rfl
  have e5 := blk_frozen Bg4.out 5
  go_wp2
  refine bodyPost_ret (results_single (r := .cell 4 25) rfl (.cell g4 25 #[.int .i64 0, .int .i64 0, .int .i64 0, .int .i64 0, .slice none 0 0, .slice none 0 0] (0, 0) _ rfl (blk_put (blk_put (blk_put (blk_put (blk_put (blk_put BX.out 0 (.int .i64 0) rfl) 1 (.int .i64 0) rfl) 2 (.int .i64 0) rfl) 3 (.int .i64 0) rfl) 4 (.slice none 0 0) rfl) 5 (.slice none 0 0) rfl) Try.underlying25 rfl (by kernel_rfl) .nil)) rfl ?_
  exact ⟨rfl, (below_set (below_set (below_set (below_set (below_set (below_set HM.out Gg4.out (v := .int .i64 0) (j := 0)) Gg4.out (v := .int .i64 0) (j := 1)) Gg4.out (v := .int .i64 0) (j := 2)) Gg4.out (v := .int .i64 0) (j := 3)) Gg4.out (v := .slice none 0 0) (j := 4)) Gg4.out (v := .slice none 0 0) (j := 5))⟩
end Go.Proofs.Ytemdnmidhmddlaa.Tree
