/- The law TreeBack, walked. Conditions: none. -/
import Derived.Test.YtemdnmidhmddlaaTrQ
import Derived.Test.YtemdnmidhmddlaaTrH
namespace Go.Proofs.Ytemdnmidhmddlaa.TreeBack
open Go Go.RowKit Go.Proofs.YtemdnmidhmddlaaW.PrintWords Go.Proofs.YtemdnmidhmddlaaW.PrintLast Go.Proofs.YtemdnmidhmddlaaW.PrintMore Go.Proofs.Ytemdnmidhmddlaa.PAll Go.Proofs.Ytemdnmidhmddlaa.Tree
set_option linter.unusedVariables false
set_option linter.unusedSimpArgs false
def R7a.T : Bool × List (List Nat × List Nat) := (true, [([], []), ([], []), ([0, 1], [0, 1]), ([], []), ([], []), ([3, 4], [3, 4]), ([5], [5]), ([6], [6]), ([2, 7, 2], [2, 7]), ([8], [8])])
def R7a.B : List Nat := [0, 0, 3, 0, 0, 24, 56, 120, 255, 511]
theorem R7a.tab : rtab .any (opsOf Try.f7 11) = R7a.T := by kernel_rfl
theorem R7a.bits : waitsOk R7a.T.2 R7a.B = true := by kernel_rfl
def R7b.T : Bool × List (List Nat × List Nat) := (true, [([], []), ([0], [0]), ([], []), ([2, 1], [2]), ([1, 3], [1, 3]), ([4, 3], [4]), ([5], [5]), ([5], [5]), ([6, 7, 5, 5], [5, 6, 7]), ([5], [5]), ([5], [5]), ([9, 10, 8, 5], [5, 9, 10]), ([8, 11, 5], [5, 8, 11]), ([5, 12], [5, 12]), ([13, 11], [13]), ([14], [14]), ([14], [14]), ([15, 16, 14, 14], [14, 15, 16]), ([14, 17], [14, 17]), ([18, 17], [18]), ([19], [19]), ([20, 19, 19], [19, 20]), ([19], [19]), ([21, 22, 21, 19], [19, 21, 22]), ([19, 23], [19, 23]), ([24, 23], [24]), ([25, 25], [25]), ([25, 26], [25, 26]), ([27, 26, 0, 1, 2, 3, 4, 5, 6, 7, 8, 9, 10, 11, 12, 13, 14, 15, 16, 17, 18, 19, 20, 21, 22, 23, 24, 25, 26, 27], [27])])
def R7b.B : List Nat := [0, 1, 0, 7, 15, 31, 63, 63, 255, 63, 63, 2047, 4095, 8191, 16383, 32767, 32767, 131071, 262143, 524287, 1048575, 2097151, 1048575, 8388607, 16777215, 33554431, 67108863, 134217727, 268435455]
theorem R7b.tab : rtab .any (opsOf Try.f7 14) = R7b.T := by kernel_rfl
theorem R7b.bits : waitsOk R7b.T.2 R7b.B = true := by kernel_rfl
def HeldB (w : World) (g g2 : Nat) (v0 v1 v2 v3 v4 v5 u0 u1 u2 u3 u4 u5 : Value) : Prop :=
 w.cell? ⟨g, 0, none⟩ = some v0 ∧ w.cell? ⟨g, 1, none⟩ = some v1 ∧ w.cell? ⟨g, 2, none⟩ = some v2 ∧ w.cell? ⟨g, 3, none⟩ = some v3 ∧ w.cell? ⟨g, 4, none⟩ = some v4 ∧ w.cell? ⟨g, 5, none⟩ = some v5 ∧
 w.cell? ⟨g2, 0, none⟩ = some u0 ∧ w.cell? ⟨g2, 1, none⟩ = some u1 ∧ w.cell? ⟨g2, 2, none⟩ = some u2 ∧ w.cell? ⟨g2, 3, none⟩ = some u3 ∧ w.cell? ⟨g2, 4, none⟩ = some u4 ∧ w.cell? ⟨g2, 5, none⟩ = some u5
theorem heldB_of {w : World} {g g2 : Nat} {v0 v1 v2 v3 v4 v5 u0 u1 u2 u3 u4 u5 : Value} (h : w.heap[g]? = some (.cells #[v0, v1, v2, v3, v4, v5] 25 (0, 0))) (h2 : w.heap[g2]? = some (.cells #[u0, u1, u2, u3, u4, u5] 25 (0, 0))) : HeldB w g g2 v0 v1 v2 v3 v4 v5 u0 u1 u2 u3 u4 u5 := by
 obtain ⟨a0, a1, a2, a3, a4, a5⟩ := held6 h
 obtain ⟨b0, b1, b2, b3, b4, b5⟩ := held6 h2
 exact ⟨a0, a1, a2, a3, a4, a5, b0, b1, b2, b3, b4, b5⟩
def HeldC (w : World) (a : Addr) (k0 k1 k2 k3 : Int) (v4 v5 : Value) : Prop :=
 w.cell? a = some (.int .i64 k0) ∧ w.cell? ⟨a.block, a.off + 1, none⟩ = some (.int .i64 k1) ∧ w.cell? ⟨a.block, a.off + 2, none⟩ = some (.int .i64 k2) ∧ w.cell? ⟨a.block, a.off + 3, none⟩ = some (.int .i64 k3) ∧ w.cell? ⟨a.block, a.off + 4, none⟩ = some v4 ∧ w.cell? ⟨a.block, a.off + 5, none⟩ = some v5
theorem sub_good (x : S25) (hn : nmT [x] ≤ 500) {m : Nat} {e : S46} (h : (rwL [x] (-1) 1 0)[m]? = some e) : GoodB e.f0 :=
 goodB_of _ e.f0 (Nat.lt_succ_self _) (by have := rw_nmT _ [x] (-1) 1 0 (Nat.lt_succ_self _) e (List.mem_of_getElem? h); omega)
set_option maxHeartbeats 8000000 in
set_option maxRecDepth 100000 in
theorem lawNo (x y : S25) (A4 A5 B4 B5 : Option Addr) (c4 c5 d4 d5 : Nat) (w : World) (h4 : Kd.C (Kd.int .i64) w A4 x.f4.length x.f4) (l4 : x.f4.length ≤ c4) (h5 : Kd.C k25 w A5 x.f5.length x.f5) (l5 : x.f5.length ≤ c5) (i4 : Kd.C (Kd.int .i64) w B4 y.f4.length y.f4) (m4 : y.f4.length ≤ d4) (i5 : Kd.C k25 w B5 y.f5.length y.f5) (m5 : y.f5.length ≤ d5) (hf : fewB x = false ∨ (fewB x = true ∧ fewB y = false)) :
  Calls Try.prog 7 #[.agg #[.int .i64 x.f0, .int .i64 x.f1, .int .i64 x.f2, .int .i64 x.f3, .slice A4 x.f4.length c4, .slice A5 x.f5.length c5], .agg #[.int .i64 y.f0, .int .i64 y.f1, .int .i64 y.f2, .int .i64 y.f3, .slice B4 y.f4.length d4, .slice B5 y.f5.length d5]] w fun e w' => e = .returned (.bool true) ∧ Below w.heap.size w w' := by
 have HM := Aside0.mk (Below.refl w.heap.size w)
 have H4 := Aside0.mk h4
 have H5 := Aside0.mk h5
 have L4 := Aside0.mk l4
 have L5 := Aside0.mk l5
 have I4 := Aside0.mk i4
 have I5 := Aside0.mk i5
 have M4 := Aside0.mk m4
 have M5 := Aside0.mk m5
 clear h4 h5 l4 l5 i4 i5 m4 m5
 rcases hf with hf | ⟨hf, hf2⟩
 ·have EX := Aside0.mk hf
  clear hf
  go_enter Try.func7, Try.ntmps7
  go_wp2_with (first | ((with_reducible refine gate_dst (N := 2) rfl ?_); refine box_event ?hg (N := 2) ?hd (cs := #[.int .i64 x.f0, .int .i64 x.f1, .int .i64 x.f2, .int .i64 x.f3, .slice A4 x.f4.length c4, .slice A5 x.f5.length c5]) (t := 25) ?hr ?_; (case hd => rfl); (case hg => rfl); (case hr => first | (go_simp; done) | (go_simp; rfl)); intro gx hg w1 hbox hb; have BX := Aside0.mk hbox; have n_ := Aside0.mk (Kd.C_below H4.out hb); clear H4; have H4 := n_; clear n_; have n_ := Aside0.mk (Kd.C_below H5.out hb); clear H5; have H5 := n_; clear n_; have n_ := Aside0.mk (Kd.C_below I4.out hb); clear I4; have I4 := n_; clear n_; have n_ := Aside0.mk (Kd.C_below I5.out hb); clear I5; have I5 := n_; clear n_; have n_ := Aside0.mk (below_step (by repeat (first | (with_reducible first | exact HM.out | apply below_alloc | apply pw_below_drewN | apply below_drew1) | exact HM.out)) hb); clear HM; have HM := n_; clear n_; clear hb hbox hg; (try clear y_0 y_1 y_2 y_3 y_4 y_5); obtain ⟨y_0, y_1, y_2, y_3, y_4, y_5⟩ := held6 BX.out) | ((with_reducible refine gate_dst (N := 3) rfl ?_); refine box_event ?hg (N := 3) ?hd (cs := #[.int .i64 y.f0, .int .i64 y.f1, .int .i64 y.f2, .int .i64 y.f3, .slice B4 y.f4.length d4, .slice B5 y.f5.length d5]) (t := 25) ?hr ?_; (case hd => rfl); (case hg => rfl); (case hr => first | (go_simp; done) | (go_simp; rfl)); intro gy hg w1 hbox hb; have BY := Aside0.mk hbox; have n_ := Aside0.mk (blk_below BX.out hb); clear BX; have BX := n_; clear n_; have n_ := Aside0.mk (Kd.C_below H4.out hb); clear H4; have H4 := n_; clear n_; have n_ := Aside0.mk (Kd.C_below H5.out hb); clear H5; have H5 := n_; clear n_; have n_ := Aside0.mk (Kd.C_below I4.out hb); clear I4; have I4 := n_; clear n_; have n_ := Aside0.mk (Kd.C_below I5.out hb); clear I5; have I5 := n_; clear n_; have n_ := Aside0.mk (below_step (by repeat (first | (with_reducible first | exact HM.out | apply below_alloc | apply pw_below_drewN | apply below_drew1) | exact HM.out)) hb); clear HM; have HM := n_; clear n_; clear hb hbox hg; (try clear y_0 y_1 y_2 y_3 y_4 y_5); obtain ⟨y_0, y_1, y_2, y_3, y_4, y_5⟩ := held6 BX.out; (try clear z_0 z_1 z_2 z_3 z_4 z_5); obtain ⟨z_0, z_1, z_2, z_3, z_4, z_5⟩ := held6 BY.out) | (go_at_call 8; ((with_reducible refine (few_ x A4 A5 c4 c5 _ H4.out L4.out H5.out L5.out).mono ?_); rintro e w9 ⟨rfl, hb⟩; rw [EX.out]; have n_ := Aside0.mk (Kd.C_below H4.out hb); clear H4; have H4 := n_; clear n_; have n_ := Aside0.mk (Kd.C_below H5.out hb); clear H5; have H5 := n_; clear n_; have n_ := Aside0.mk (Kd.C_below I4.out hb); clear I4; have I4 := n_; clear n_; have n_ := Aside0.mk (Kd.C_below I5.out hb); clear I5; have I5 := n_; clear n_; have n_ := Aside0.mk (blk_below BX.out hb); clear BX; have BX := n_; clear n_; have n_ := Aside0.mk (blk_below BY.out hb); clear BY; have BY := n_; clear n_; have n_ := Aside0.mk (below_step (by repeat (first | (with_reducible first | exact HM.out | apply below_alloc | apply pw_below_drewN | apply below_drew1) | exact HM.out)) hb); clear HM; have HM := n_; clear n_; clear hb; (try clear y_0 y_1 y_2 y_3 y_4 y_5); obtain ⟨y_0, y_1, y_2, y_3, y_4, y_5⟩ := held6 BX.out; (try clear z_0 z_1 z_2 z_3 z_4 z_5); obtain ⟨z_0, z_1, z_2, z_3, z_4, z_5⟩ := held6 BY.out)) | (go_at_call 13; refine (alive _).mono ?_; rintro e w9 ⟨rfl, hb⟩; have n_ := Aside0.mk (below_step (by repeat (first | (with_reducible first | exact HM.out | apply below_alloc | apply pw_below_drewN | apply below_drew1) | exact HM.out)) hb); clear HM; have HM := n_; clear n_; clear hb))
  go_ret
  exact ⟨rfl, HM.out⟩
 ·have EX := Aside0.mk hf
  have EY := Aside0.mk hf2
  clear hf hf2
  go_enter Try.func7, Try.ntmps7
  go_wp2_with (first | ((with_reducible refine gate_dst (N := 2) rfl ?_); refine box_event ?hg (N := 2) ?hd (cs := #[.int .i64 x.f0, .int .i64 x.f1, .int .i64 x.f2, .int .i64 x.f3, .slice A4 x.f4.length c4, .slice A5 x.f5.length c5]) (t := 25) ?hr ?_; (case hd => rfl); (case hg => rfl); (case hr => first | (go_simp; done) | (go_simp; rfl)); intro gx hg w1 hbox hb; have BX := Aside0.mk hbox; have n_ := Aside0.mk (Kd.C_below H4.out hb); clear H4; have H4 := n_; clear n_; have n_ := Aside0.mk (Kd.C_below H5.out hb); clear H5; have H5 := n_; clear n_; have n_ := Aside0.mk (Kd.C_below I4.out hb); clear I4; have I4 := n_; clear n_; have n_ := Aside0.mk (Kd.C_below I5.out hb); clear I5; have I5 := n_; clear n_; have n_ := Aside0.mk (below_step (by repeat (first | (with_reducible first | exact HM.out | apply below_alloc | apply pw_below_drewN | apply below_drew1) | exact HM.out)) hb); clear HM; have HM := n_; clear n_; clear hb hbox hg; (try clear y_0 y_1 y_2 y_3 y_4 y_5); obtain ⟨y_0, y_1, y_2, y_3, y_4, y_5⟩ := held6 BX.out) | ((with_reducible refine gate_dst (N := 3) rfl ?_); refine box_event ?hg (N := 3) ?hd (cs := #[.int .i64 y.f0, .int .i64 y.f1, .int .i64 y.f2, .int .i64 y.f3, .slice B4 y.f4.length d4, .slice B5 y.f5.length d5]) (t := 25) ?hr ?_; (case hd => rfl); (case hg => rfl); (case hr => first | (go_simp; done) | (go_simp; rfl)); intro gy hg w1 hbox hb; have BY := Aside0.mk hbox; have n_ := Aside0.mk (blk_below BX.out hb); clear BX; have BX := n_; clear n_; have n_ := Aside0.mk (Kd.C_below H4.out hb); clear H4; have H4 := n_; clear n_; have n_ := Aside0.mk (Kd.C_below H5.out hb); clear H5; have H5 := n_; clear n_; have n_ := Aside0.mk (Kd.C_below I4.out hb); clear I4; have I4 := n_; clear n_; have n_ := Aside0.mk (Kd.C_below I5.out hb); clear I5; have I5 := n_; clear n_; have n_ := Aside0.mk (below_step (by repeat (first | (with_reducible first | exact HM.out | apply below_alloc | apply pw_below_drewN | apply below_drew1) | exact HM.out)) hb); clear HM; have HM := n_; clear n_; clear hb hbox hg; (try clear y_0 y_1 y_2 y_3 y_4 y_5); obtain ⟨y_0, y_1, y_2, y_3, y_4, y_5⟩ := held6 BX.out; (try clear z_0 z_1 z_2 z_3 z_4 z_5); obtain ⟨z_0, z_1, z_2, z_3, z_4, z_5⟩ := held6 BY.out) | (go_at_call 8; ((with_reducible refine (few_ x A4 A5 c4 c5 _ H4.out L4.out H5.out L5.out).mono ?_); rintro e w9 ⟨rfl, hb⟩; rw [EX.out]; have n_ := Aside0.mk (Kd.C_below H4.out hb); clear H4; have H4 := n_; clear n_; have n_ := Aside0.mk (Kd.C_below H5.out hb); clear H5; have H5 := n_; clear n_; have n_ := Aside0.mk (Kd.C_below I4.out hb); clear I4; have I4 := n_; clear n_; have n_ := Aside0.mk (Kd.C_below I5.out hb); clear I5; have I5 := n_; clear n_; have n_ := Aside0.mk (blk_below BX.out hb); clear BX; have BX := n_; clear n_; have n_ := Aside0.mk (blk_below BY.out hb); clear BY; have BY := n_; clear n_; have n_ := Aside0.mk (below_step (by repeat (first | (with_reducible first | exact HM.out | apply below_alloc | apply pw_below_drewN | apply below_drew1) | exact HM.out)) hb); clear HM; have HM := n_; clear n_; clear hb; (try clear y_0 y_1 y_2 y_3 y_4 y_5); obtain ⟨y_0, y_1, y_2, y_3, y_4, y_5⟩ := held6 BX.out; (try clear z_0 z_1 z_2 z_3 z_4 z_5); obtain ⟨z_0, z_1, z_2, z_3, z_4, z_5⟩ := held6 BY.out)) | (go_at_call 8; ((with_reducible refine (few_ y B4 B5 d4 d5 _ I4.out M4.out I5.out M5.out).mono ?_); rintro e w9 ⟨rfl, hb⟩; rw [EY.out]; have n_ := Aside0.mk (Kd.C_below H4.out hb); clear H4; have H4 := n_; clear n_; have n_ := Aside0.mk (Kd.C_below H5.out hb); clear H5; have H5 := n_; clear n_; have n_ := Aside0.mk (Kd.C_below I4.out hb); clear I4; have I4 := n_; clear n_; have n_ := Aside0.mk (Kd.C_below I5.out hb); clear I5; have I5 := n_; clear n_; have n_ := Aside0.mk (blk_below BX.out hb); clear BX; have BX := n_; clear n_; have n_ := Aside0.mk (blk_below BY.out hb); clear BY; have BY := n_; clear n_; have n_ := Aside0.mk (below_step (by repeat (first | (with_reducible first | exact HM.out | apply below_alloc | apply pw_below_drewN | apply below_drew1) | exact HM.out)) hb); clear HM; have HM := n_; clear n_; clear hb; (try clear y_0 y_1 y_2 y_3 y_4 y_5); obtain ⟨y_0, y_1, y_2, y_3, y_4, y_5⟩ := held6 BX.out; (try clear z_0 z_1 z_2 z_3 z_4 z_5); obtain ⟨z_0, z_1, z_2, z_3, z_4, z_5⟩ := held6 BY.out)) | (go_at_call 13; refine (alive _).mono ?_; rintro e w9 ⟨rfl, hb⟩; have n_ := Aside0.mk (below_step (by repeat (first | (with_reducible first | exact HM.out | apply below_alloc | apply pw_below_drewN | apply below_drew1) | exact HM.out)) hb); clear HM; have HM := n_; clear n_; clear hb))
  go_ret
  exact ⟨rfl, HM.out⟩
set_option maxHeartbeats 8000000 in
set_option maxRecDepth 100000 in
theorem lawYes (x y : S25) (A4 A5 B4 B5 : Option Addr) (c4 c5 d4 d5 : Nat) (w : World) (h4 : Kd.C (Kd.int .i64) w A4 x.f4.length x.f4) (l4 : x.f4.length ≤ c4) (h5 : Kd.C k25 w A5 x.f5.length x.f5) (l5 : x.f5.length ≤ c5) (i4 : Kd.C (Kd.int .i64) w B4 y.f4.length y.f4) (m4 : y.f4.length ≤ d4) (i5 : Kd.C k25 w B5 y.f5.length y.f5) (m5 : y.f5.length ≤ d5) (hf : fewB x = true) (hf2 : fewB y = true) :
  Calls Try.prog 7 #[.agg #[.int .i64 x.f0, .int .i64 x.f1, .int .i64 x.f2, .int .i64 x.f3, .slice A4 x.f4.length c4, .slice A5 x.f5.length c5], .agg #[.int .i64 y.f0, .int .i64 y.f1, .int .i64 y.f2, .int .i64 y.f3, .slice B4 y.f4.length d4, .slice B5 y.f5.length d5]] w fun e w' => e = .returned (.bool true) ∧ Below w.heap.size w w' := by
 have HM := Aside0.mk (Below.refl w.heap.size w)
 have H4 := Aside0.mk h4
 have H5 := Aside0.mk h5
 have L4 := Aside0.mk l4
 have L5 := Aside0.mk l5
 have I4 := Aside0.mk i4
 have I5 := Aside0.mk i5
 have M4 := Aside0.mk m4
 have M5 := Aside0.mk m5
 clear h4 h5 l4 l5 i4 i5 m4 m5
 have EX := Aside0.mk hf
 have EY := Aside0.mk hf2
 have FX := Aside0.mk (fewB_t hf)
 have FY := Aside0.mk (fewB_t hf2)
 clear hf hf2
 have LR : Aside0 ((rwL [x] (-1) 1 0).length = szL [x]) := ⟨rw_len _ _ _ _⟩
 have SG := Aside0.mk (Seg.whole x)
 have BR := Aside0.mk (branch_ x FX.out.1 FX.out.2.1)
 go_enter Try.func7, Try.ntmps7
 go_upto_region 5 with (first | ((with_reducible refine gate_dst (N := 2) rfl ?_); refine box_event ?hg (N := 2) ?hd (cs := #[.int .i64 x.f0, .int .i64 x.f1, .int .i64 x.f2, .int .i64 x.f3, .slice A4 x.f4.length c4, .slice A5 x.f5.length c5]) (t := 25) ?hr ?_; (case hd => rfl); (case hg => rfl); (case hr => first | (go_simp; done) | (go_simp; rfl)); intro gx hg w1 hbox hb; have BX := Aside0.mk hbox; have n_ := Aside0.mk (Kd.C_below H4.out hb); clear H4; have H4 := n_; clear n_; have n_ := Aside0.mk (Kd.C_below H5.out hb); clear H5; have H5 := n_; clear n_; have n_ := Aside0.mk (Kd.C_below I4.out hb); clear I4; have I4 := n_; clear n_; have n_ := Aside0.mk (Kd.C_below I5.out hb); clear I5; have I5 := n_; clear n_; have n_ := Aside0.mk (below_step (by repeat (first | (with_reducible first | exact HM.out | apply below_alloc | apply pw_below_drewN | apply below_drew1) | exact HM.out)) hb); clear HM; have HM := n_; clear n_; clear hb hbox hg; (try clear y_0 y_1 y_2 y_3 y_4 y_5); obtain ⟨y_0, y_1, y_2, y_3, y_4, y_5⟩ := held6 BX.out) | ((with_reducible refine gate_dst (N := 3) rfl ?_); refine box_event ?hg (N := 3) ?hd (cs := #[.int .i64 y.f0, .int .i64 y.f1, .int .i64 y.f2, .int .i64 y.f3, .slice B4 y.f4.length d4, .slice B5 y.f5.length d5]) (t := 25) ?hr ?_; (case hd => rfl); (case hg => rfl); (case hr => first | (go_simp; done) | (go_simp; rfl)); intro gy hg w1 hbox hb; have BY := Aside0.mk hbox; have n_ := Aside0.mk (blk_below BX.out hb); clear BX; have BX := n_; clear n_; have n_ := Aside0.mk (Kd.C_below H4.out hb); clear H4; have H4 := n_; clear n_; have n_ := Aside0.mk (Kd.C_below H5.out hb); clear H5; have H5 := n_; clear n_; have n_ := Aside0.mk (Kd.C_below I4.out hb); clear I4; have I4 := n_; clear n_; have n_ := Aside0.mk (Kd.C_below I5.out hb); clear I5; have I5 := n_; clear n_; have n_ := Aside0.mk (below_step (by repeat (first | (with_reducible first | exact HM.out | apply below_alloc | apply pw_below_drewN | apply below_drew1) | exact HM.out)) hb); clear HM; have HM := n_; clear n_; clear hb hbox hg; (try clear y_0 y_1 y_2 y_3 y_4 y_5); obtain ⟨y_0, y_1, y_2, y_3, y_4, y_5⟩ := held6 BX.out; (try clear z_0 z_1 z_2 z_3 z_4 z_5); obtain ⟨z_0, z_1, z_2, z_3, z_4, z_5⟩ := held6 BY.out) | (go_at_call 8; ((with_reducible refine (few_ x A4 A5 c4 c5 _ H4.out L4.out H5.out L5.out).mono ?_); rintro e w9 ⟨rfl, hb⟩; rw [EX.out]; have n_ := Aside0.mk (Kd.C_below H4.out hb); clear H4; have H4 := n_; clear n_; have n_ := Aside0.mk (Kd.C_below H5.out hb); clear H5; have H5 := n_; clear n_; have n_ := Aside0.mk (Kd.C_below I4.out hb); clear I4; have I4 := n_; clear n_; have n_ := Aside0.mk (Kd.C_below I5.out hb); clear I5; have I5 := n_; clear n_; have n_ := Aside0.mk (blk_below BX.out hb); clear BX; have BX := n_; clear n_; have n_ := Aside0.mk (blk_below BY.out hb); clear BY; have BY := n_; clear n_; have n_ := Aside0.mk (below_step (by repeat (first | (with_reducible first | exact HM.out | apply below_alloc | apply pw_below_drewN | apply below_drew1) | exact HM.out)) hb); clear HM; have HM := n_; clear n_; clear hb; (try clear y_0 y_1 y_2 y_3 y_4 y_5); obtain ⟨y_0, y_1, y_2, y_3, y_4, y_5⟩ := held6 BX.out; (try clear z_0 z_1 z_2 z_3 z_4 z_5); obtain ⟨z_0, z_1, z_2, z_3, z_4, z_5⟩ := held6 BY.out)) | (go_at_call 8; ((with_reducible refine (few_ y B4 B5 d4 d5 _ I4.out M4.out I5.out M5.out).mono ?_); rintro e w9 ⟨rfl, hb⟩; rw [EY.out]; have n_ := Aside0.mk (Kd.C_below H4.out hb); clear H4; have H4 := n_; clear n_; have n_ := Aside0.mk (Kd.C_below H5.out hb); clear H5; have H5 := n_; clear n_; have n_ := Aside0.mk (Kd.C_below I4.out hb); clear I4; have I4 := n_; clear n_; have n_ := Aside0.mk (Kd.C_below I5.out hb); clear I5; have I5 := n_; clear n_; have n_ := Aside0.mk (blk_below BX.out hb); clear BX; have BX := n_; clear n_; have n_ := Aside0.mk (blk_below BY.out hb); clear BY; have BY := n_; clear n_; have n_ := Aside0.mk (below_step (by repeat (first | (with_reducible first | exact HM.out | apply below_alloc | apply pw_below_drewN | apply below_drew1) | exact HM.out)) hb); clear HM; have HM := n_; clear n_; clear hb; (try clear y_0 y_1 y_2 y_3 y_4 y_5); obtain ⟨y_0, y_1, y_2, y_3, y_4, y_5⟩ := held6 BX.out; (try clear z_0 z_1 z_2 z_3 z_4 z_5); obtain ⟨z_0, z_1, z_2, z_3, z_4, z_5⟩ := held6 BY.out)) | (go_at_call 9; refine (make_ x A4 A5 c4 c5 _ FX.out.2.2 (by have := FX.out.1; omega) H4.out H5.out).mono ?_; rintro e wT ⟨g, rfl, ht, hb⟩; have TT := Aside0.mk ht; have n_ := Aside0.mk (Kd.C_below H4.out hb); clear H4; have H4 := n_; clear n_; have n_ := Aside0.mk (Kd.C_below H5.out hb); clear H5; have H5 := n_; clear n_; have n_ := Aside0.mk (Kd.C_below I4.out hb); clear I4; have I4 := n_; clear n_; have n_ := Aside0.mk (Kd.C_below I5.out hb); clear I5; have I5 := n_; clear n_; have n_ := Aside0.mk (blk_below BX.out hb); clear BX; have BX := n_; clear n_; have n_ := Aside0.mk (blk_below BY.out hb); clear BY; have BY := n_; clear n_; have n_ := Aside0.mk (below_step (by repeat (first | (with_reducible first | exact HM.out | apply below_alloc | apply pw_below_drewN | apply below_drew1) | exact HM.out)) hb); clear HM; have HM := n_; clear n_; clear hb ht; (try clear y_0 y_1 y_2 y_3 y_4 y_5); obtain ⟨y_0, y_1, y_2, y_3, y_4, y_5⟩ := held6 BX.out; (try clear z_0 z_1 z_2 z_3 z_4 z_5); obtain ⟨z_0, z_1, z_2, z_3, z_4, z_5⟩ := held6 BY.out) | (go_at_call 12; refine (Rows_ x A4 A5 c4 c5 _ (by have := FX.out.1; omega) H4.out L4.out H5.out L5.out).mono ?_; rintro e wR ⟨A, c, rfl, hc, hC, hb⟩; have HC := Aside0.mk hC; have LC := Aside0.mk hc; have n_ := Aside0.mk (Kd.C_below H4.out hb); clear H4; have H4 := n_; clear n_; have n_ := Aside0.mk (Kd.C_below H5.out hb); clear H5; have H5 := n_; clear n_; have n_ := Aside0.mk (Kd.C_below I4.out hb); clear I4; have I4 := n_; clear n_; have n_ := Aside0.mk (Kd.C_below I5.out hb); clear I5; have I5 := n_; clear n_; have n_ := Aside0.mk (blk_below BX.out hb); clear BX; have BX := n_; clear n_; have n_ := Aside0.mk (blk_below BY.out hb); clear BY; have BY := n_; clear n_; have n_ := Aside0.mk (TT.out.below hb); clear TT; have TT := n_; clear n_; have n_ := Aside0.mk (below_step (by repeat (first | (with_reducible first | exact HM.out | apply below_alloc | apply pw_below_drewN | apply below_drew1) | exact HM.out)) hb); clear HM; have HM := n_; clear n_; clear hb hC hc y_0 y_1 y_2 y_3 y_4 y_5 z_0 z_1 z_2 z_3 z_4 z_5))
 have HT := Aside0.mk (Below.refl wR.heap.size wR)
 obtain ⟨ad, eA⟩ : ∃ ad, A = some ad := by
  obtain ⟨ad, _, _, _, _, eA, _⟩ := at_T46 HC.out 0 (Int.le_refl _) (by have := LR.out; have := szL_one x; omega)
  exact ⟨ad, eA⟩
 subst eA
 go_wp2
 go_loopg [24] ((rwL [x] (-1) 1 0).length + 1) (fun kq v24 w' => ∃ (j : Nat) (b : Int), v24 = .int .i64 b ∧ Aside0 (b = (j : Int)) ∧ Aside0 (kq + j = (rwL [x] (-1) 1 0).length + 1 ∧ j ≤ (rwL [x] (-1) 1 0).length) ∧ Aside0 (Below wR.heap.size wR w'))
 case atStart => exact ⟨0, 0, rfl, ⟨rfl⟩, ⟨⟨by omega, by omega⟩⟩, HT⟩
 case round =>
  clear HT
  obtain ⟨j, b, rfl, HE, HK, HT⟩ := hrel
  cases gk with
  | zero => have := HK.out; omega
  | succ k1 =>
   by_cases cc : b < ((rwL [x] (-1) 1 0).length : Int)
   ·have c0b : decide (b < ((rwL [x] (-1) 1 0).length : Int)) = true := decide_eq_true cc
    have hj : j < (rwL [x] (-1) 1 0).length := by have := HE.out; omega
    have p1 : (0 : Int) ≤ b := by have := HE.out; omega
    have q1 : b < ((rwL [x] (-1) 1 0).length : Int) := cc
    obtain ⟨e, hno, hsz⟩ := node_at _ [x] (-1) 1 0 (Nat.lt_succ_self _) SG.out j (Nat.zero_le _) (by have := LR.out; omega)
    obtain ⟨nx, hkn⟩ := hno.hk
    have NO := Aside0.mk hno
    have NM : Aside0 (namesF (knL [x] (-1) 0) (nmL [x]) b = e.f0.f4) := ⟨by rw [HE.out]; exact names_at x hno.hr hkn⟩
    have N5 : Aside0 (e.f0.f4.length ≤ 500) := ⟨rw_names x FX.out.2.1 hno.hr⟩
    have GE := Aside0.mk (sub_good x FX.out.2.1 hno.hr)
    have SE : Aside0 (szL [e.f0] ≤ 1000000) := ⟨by have h1_ := rw_szL _ [x] (-1) 1 0 (Nat.lt_succ_self _) e (List.mem_of_getElem? hno.hr); have := FX.out.1; omega⟩
    have ER : Aside0 (rd_T46 (rwL [x] (-1) 1 0) b = e) := ⟨by rw [HE.out, rd46 hno.hr]⟩
    obtain ⟨ks, hks⟩ := (same_ev _ e.f0 e.f0 (Nat.lt_succ_self _) GE.out SE.out).rounds
    rw [sameN_refl] at hks
    have KSM := Aside0.mk hks
    have PQ := Aside0.mk (And.intro p1 q1)
    have ew : wrap64 (b + 1) = b + 1 := wid (by have := HE.out; omega) (by have := HE.out; have := LR.out; have := FX.out.1; omega)
    clear hno hkn hsz hks cc p1 q1
    go_upto_if 32 with (first | (go_at_call 19; refine (names_ (some ⟨g, 0, none⟩) (knL [x] (-1) 0) (nmL [x]) b _ ⟨by rw [nm_len, kn_len], Or.inr ⟨g, rfl, (TT.out.below (by repeat (first | (with_reducible first | exact HT.out | apply below_alloc | apply pw_below_drewN | apply below_drew1) | exact HT.out)))⟩⟩ (by rw [NM.out]; have := N5.out; omega)).mono ?_; rintro e w8 ⟨v8_, rfl, hr, hb⟩; rw [NM.out] at hr; have R8 := Aside0.mk (Kd.R_lower hr HT.out.size); have n_ := Aside0.mk (below_step (by repeat (first | (with_reducible first | exact HT.out | apply below_alloc | apply pw_below_drewN | apply below_drew1) | exact HT.out)) hb); clear HT; have HT := n_; clear n_; clear hr hb; obtain ⟨A8, c8, e8⟩ := Kd.R_slice R8.out; subst e8))
    go_cut [8] (fun v8 wc => Aside0 (Below wR.heap.size wR wc))
    case first =>
     by_cases c0 : 0 < e.f0.f4.length
     ·obtain ⟨gs, cs, ev4, gb4, gl4, cl4, hG4⟩ := Kd.R_form R8.out c0
      injection ev4 with ev1 ev2 ev3
      subst ev1
      have GS := Aside0.mk gb4
      have p1 : (0 : Int) ≤ 0 := Int.le_refl _
      have q1 : (0 : Int) < (e.f0.f4.length : Int) := by omega
      obtain ⟨u0, uf⟩ := Kd.R_celln 0 R8.out 0 p1 q1
      replace u0 : w8.cell? ⟨gs, 0, none⟩ = some (.int .i64 (rdOf 0 e.f0.f4 0)) := u0
      obtain ⟨nv, hnv⟩ : ∃ nv, rdOf 0 e.f0.f4 0 = nv := ⟨_, rfl⟩
      rw [hnv] at u0
      have uf0 : w8.frozen? ⟨gs, 0, none⟩ = false := uf
      have pq : decide ((e.f0.f4.length : Int) > 0) = true := decide_eq_true (by omega)
      replace p1 := eq_true p1
      replace q1 := eq_true q1
      clear hnv gb4 gl4 cl4 hG4 ev2 ev3 uf R8
      go_wp2
      go_meet
      case rel => exact ⟨below_set HT.out GS.out⟩
     ·have pq : decide ((e.f0.f4.length : Int) > 0) = false := decide_eq_false (by omega)
      go_wp2
      go_meet
      case rel => exact HT
    case rest =>
     clear HT R8
     have HT := hcut
     clear hcut
     obtain ⟨wm, rfl⟩ : ∃ wm : World, wm = wc := ⟨_, rfl⟩
     obtain ⟨ad2, E4, k4, E5, k5, eA2, y0, y1, y2, y3, y4, y5, y6, y7, lr4, hr4, lr5, hr5⟩ := at_T46 (Kd.C_below HC.out HT.out) b PQ.out.1 PQ.out.2
     cases eA2
     rw [ER.out] at y0 y1 y2 y3 y4 y5 lr4 hr4 lr5 hr5
     have L44 := Aside0.mk lr4
     have C44 := Aside0.mk hr4
     have L55 := Aside0.mk lr5
     have C55 := Aside0.mk hr5
     have SH : Aside0 (∀ w' : World, Below wm.heap.size wm w' → HeldC w' (ad.add (b.toNat * 8)) e.f0.f0 e.f0.f1 e.f0.f2 e.f0.f3 (.slice E4 e.f0.f4.length k4) (.slice E5 e.f0.f5.length k5)) := ⟨fun w' hb => ⟨(hb.cell (World.block_lt_of_cell? wm _ y0)).trans y0, (hb.cell (World.block_lt_of_cell? wm _ y1)).trans y1, (hb.cell (World.block_lt_of_cell? wm _ y2)).trans y2, (hb.cell (World.block_lt_of_cell? wm _ y3)).trans y3, (hb.cell (World.block_lt_of_cell? wm _ y4)).trans y4, (hb.cell (World.block_lt_of_cell? wm _ y5)).trans y5⟩⟩
     have HB := Aside0.mk (Below.refl wm.heap.size wm)
     have TTm := Aside0.mk (TT.out.below HT.out)
     have p1 := eq_true PQ.out.1
     have q1 := eq_true PQ.out.2
     clear y0 y1 y2 y3 y4 y5 y6 y7 lr4 hr4 lr5 hr5
     go_upto_region 11 with (first | fail)
     refine start_ (n := 10) (S := fun w' => HeldC w' (ad.add (b.toNat * 8)) e.f0.f0 e.f0.f1 e.f0.f2 e.f0.f3 (.slice E4 e.f0.f4.length k4) (.slice E5 e.f0.f5.length k5)) (ds := []) #[false, false, false, false, false, false, false, false, false, false] (by kernel_rfl) rfl rfl (SH.out _ (below_drew1 HB.out)) (fun hHeld => ?_)
     refine with_tabW R7a.tab R7a.bits (fun HT_ HW_ => ?_)
     have n_ := Aside0.mk (below_drew1 HB.out)
     clear HB
     have HB := n_
     clear n_
     generalize wm.drew = w20 at HB hHeld ⊢
     refine pure_ (i := 0) (N := some 38) (v := ?_) (a' := ?_) #[true, false, false, false, false, false, false, false, false, false] rfl rfl (any_of HT_.out (by kernel_rfl)) (fun _ _ _ h => h) (Or.inl ⟨by rfl, ?_⟩) ?_ ?_
     rotate_left
     ·intro w'
      go_simp
      with_reducible rfl
     rotate_left
     ·simp only [Act.put, List.setIfInBounds_toArray, List.set_cons_zero, List.set_cons_succ, i64_w, i32_w]
      rfl
     refine pure_ (i := 1) (N := some 39) (v := ?_) (a' := ?_) #[true, true, false, false, false, false, false, false, false, false] rfl rfl (any_of HT_.out (by kernel_rfl)) (fun _ _ _ h => h) (Or.inl ⟨by rfl, ?_⟩) ?_ ?_
     rotate_left
     ·intro w'
      go_simp
      with_reducible rfl
     rotate_left
     ·simp only [Act.put, List.setIfInBounds_toArray, List.set_cons_zero, List.set_cons_succ, i64_w, i32_w]
      rfl
     refine pure_ (i := 3) (N := some 41) (v := ?_) (a' := ?_) #[true, true, false, true, false, false, false, false, false, false] rfl rfl (any_of HT_.out (by kernel_rfl)) (fun _ _ _ h => h) (Or.inl ⟨by rfl, ?_⟩) ?_ ?_
     rotate_left
     ·intro w'
      go_simp
      with_reducible rfl
     rotate_left
     ·simp only [Act.put, List.setIfInBounds_toArray, List.set_cons_zero, List.set_cons_succ, i64_w, i32_w]
      rfl
     refine pure_ (i := 4) (N := some 42) (v := ?_) (a' := ?_) #[true, true, false, true, true, false, false, false, false, false] rfl rfl (any_of HT_.out (by kernel_rfl)) (fun _ _ _ h => h) (Or.inl ⟨by rfl, ?_⟩) ?_ ?_
     rotate_left
     ·intro w'
      go_simp
      with_reducible rfl
     rotate_left
     ·simp only [Act.put, List.setIfInBounds_toArray, List.set_cons_zero, List.set_cons_succ, i64_w, i32_w]
      rfl
     refine pure_ (i := 5) (N := some 43) (v := ?_) (a' := ?_) #[true, true, false, true, true, true, false, false, false, false] rfl rfl (any_of HT_.out (by kernel_rfl)) (fun _ _ _ h => h) (Or.inl ⟨by rfl, ?_⟩) ?_ ?_
     rotate_left
     ·intro w'
      go_simp
      with_reducible rfl
     rotate_left
     ·simp only [Act.put, List.setIfInBounds_toArray, List.set_cons_zero, List.set_cons_succ, i64_w, i32_w]
      rfl
     refine pure_ (i := 6) (N := some 44) (v := ?_) (a' := ?_) #[true, true, false, true, true, true, true, false, false, false] rfl rfl (any_of HT_.out (by kernel_rfl)) (fun _ _ _ h => h) (Or.inl ⟨by rfl, ?_⟩) ?_ ?_
     rotate_left
     ·intro w'
      go_simp
      with_reducible rfl
     rotate_left
     ·simp only [Act.put, List.setIfInBounds_toArray, List.set_cons_zero, List.set_cons_succ, i64_w, i32_w]
      rfl
     refine take_ (i := 7) (N := some 45) (v := ?_) (a' := ?_) #[true, true, false, true, true, true, true, true, false, false] rfl rfl (take_ofW HT_.out HW_.out (by kernel_rfl)) (fun _ _ _ h => h) (Or.inl ⟨by rfl, ?_⟩) hHeld ?_ ?_
     rotate_left
     ·rintro w' ⟨s0, s1, s2, s3, s4, s5⟩
      go_simp
      with_reducible rfl
     rotate_left
     ·simp only [Act.put, List.setIfInBounds_toArray, List.set_cons_zero, List.set_cons_succ, i64_w, i32_w]
      rfl
     refine one_ (i := 2) (N := some 40) #[true, true, true, true, true, true, true, true, false, false] rfl rfl (one_of HT_.out (by kernel_rfl)) (by decide) (fun K hK => ?_)
     refine goes_ Try.func23 (by kernel_rfl) rfl #[.pointer (some ⟨g, 0, none⟩), .int .i64 b] (by rfl) rfl rfl (by (try simp only [List.map_toArray, List.map_cons, List.map_nil]); first | done | rfl) ?_
     refine (BR.out _ e j b g w20 (Nat.lt_succ_self _) HE.out NO.out (TTm.out.below HB.out)).mono ?_
     rintro e_ w21 ⟨u4, u5, rfl, hr4, hr5, hb⟩
     obtain ⟨B4_, e4, q4⟩ := Kd.R_slice hr4
     obtain ⟨B5_, e5, q5⟩ := Kd.R_slice hr5
     subst q4
     subst q5
     refine ⟨_, rfl, ?_⟩
     have LU4 := Aside0.mk (Kd.R_reads' hr4).2.1
     have CU4 := Aside0.mk (Kd.R_reads' hr4).2.2
     have LU5 := Aside0.mk (Kd.R_reads' hr5).2.1
     have CU5 := Aside0.mk (Kd.R_reads' hr5).2.2
     clear hr4 hr5
     have n_ := Aside0.mk (below_step HB.out hb)
     clear HB
     have HB := n_
     clear n_
     clear hb
     refine hK.out _ _ (SH.out _ HB.out) (fun hHeld => ?_)
     clear hK K
     refine norm_ (a' := ?_) ?_ ?_
     rotate_left
     ·show Act.put _ (some 40) _ = _
      simp only [Act.put, List.setIfInBounds_toArray, List.set_cons_zero, List.set_cons_succ, i64_w, i32_w]
      rfl
     refine one_ (i := 8) (N := some 46) #[true, true, true, true, true, true, true, true, true, false] rfl rfl (one_of HT_.out (by kernel_rfl)) (by decide) (fun K hK => ?_)
     refine goes_ Try.func22 (by kernel_rfl) rfl #[.agg #[.int .i64 e.f0.f0, .int .i64 e.f0.f1, .int .i64 e.f0.f2, .int .i64 e.f0.f3, .slice B4_ e.f0.f4.length e4, .slice B5_ e.f0.f5.length e5], .agg #[.int .i64 e.f0.f0, .int .i64 e.f0.f1, .int .i64 e.f0.f2, .int .i64 e.f0.f3, .slice E4 e.f0.f4.length k4, .slice E5 e.f0.f5.length k5]] (by rfl) rfl rfl (by (try simp only [List.map_toArray, List.map_cons, List.map_nil]); first | done | rfl) ?_
     refine (orielref06_Same.calls ks e.f0.f0 e.f0.f1 e.f0.f2 e.f0.f3 B4_ e4 e.f0.f4 B5_ e5 e.f0.f5 e.f0.f0 e.f0.f1 e.f0.f2 e.f0.f3 E4 k4 e.f0.f4 E5 k5 e.f0.f5 true w21 CU4.out LU4.out CU5.out LU5.out (Kd.C_below C44.out HB.out) L44.out (Kd.C_below C55.out HB.out) L55.out KSM.out).mono ?_
     rintro e_ w22 ⟨rfl, hb⟩
     refine ⟨_, rfl, ?_⟩
     have n_ := Aside0.mk (below_step HB.out hb)
     clear HB
     have HB := n_
     clear n_
     clear hb
     refine hK.out _ _ (SH.out _ HB.out) (fun hHeld => ?_)
     clear hK K
     refine norm_ (a' := ?_) ?_ ?_
     rotate_left
     ·show Act.put _ (some 46) _ = _
      simp only [Act.put, List.setIfInBounds_toArray, List.set_cons_zero, List.set_cons_succ, i64_w, i32_w]
      rfl
     refine pure_ (i := 9) (N := some 47) (v := ?_) (a' := ?_) #[true, true, true, true, true, true, true, true, true, true] rfl rfl (any_of HT_.out (by kernel_rfl)) (fun _ _ _ h => h) (Or.inl ⟨by rfl, ?_⟩) ?_ ?_
     rotate_left
     ·intro w'
      go_simp
      with_reducible rfl
     rotate_left
     ·simp only [Act.put, List.setIfInBounds_toArray, List.set_cons_zero, List.set_cons_succ, i64_w, i32_w]
      rfl
     refine done_ (done_of HT_.out (by kernel_rfl)) ?_
     clear hHeld HT_ HW_
     go_wp2
     go_roundg k1
     case measure => omega
     case rel => exact ⟨j + 1, b + 1, by first | rfl | rw [ew], ⟨by rw [HE.out]; rfl⟩, ⟨by have := HK.out; omega⟩, ⟨below_step HT.out HB.out⟩⟩
   ·have c0b : decide (b < ((rwL [x] (-1) 1 0).length : Int)) = false := decide_eq_false cc
    clear cc
    obtain ⟨wm, rfl⟩ : ∃ wm : World, wm = wr := ⟨_, rfl⟩
    have n_ := Aside0.mk (Kd.C_below H4.out HT.out); clear H4; have H4 := n_; clear n_; have n_ := Aside0.mk (Kd.C_below H5.out HT.out); clear H5; have H5 := n_; clear n_; have n_ := Aside0.mk (Kd.C_below I4.out HT.out); clear I4; have I4 := n_; clear n_; have n_ := Aside0.mk (Kd.C_below I5.out HT.out); clear I5; have I5 := n_; clear n_; have n_ := Aside0.mk (blk_below BX.out HT.out); clear BX; have BX := n_; clear n_; have n_ := Aside0.mk (blk_below BY.out HT.out); clear BY; have BY := n_; clear n_; have n_ := Aside0.mk (TT.out.below HT.out); clear TT; have TT := n_; clear n_; have n_ := Aside0.mk (below_step HM.out HT.out); clear HM; have HM := n_; clear n_
    have SH : Aside0 (∀ w' : World, Below wm.heap.size wm w' → HeldB w' gx gy (.int .i64 x.f0) (.int .i64 x.f1) (.int .i64 x.f2) (.int .i64 x.f3) (.slice A4 x.f4.length c4) (.slice A5 x.f5.length c5) (.int .i64 y.f0) (.int .i64 y.f1) (.int .i64 y.f2) (.int .i64 y.f3) (.slice B4 y.f4.length d4) (.slice B5 y.f5.length d5)) := ⟨fun w' hb => heldB_of (blk_below BX.out hb) (blk_below BY.out hb)⟩
    have HB := Aside0.mk (Below.refl wm.heap.size wm)
    have ZX : Aside0 (szL [x] ≤ 1000000 ∧ szL [y] ≤ 1000000) := ⟨by have := FX.out.1; have := FY.out.1; omega⟩
    obtain ⟨kr, hkr⟩ := (right_ev _ x (Nat.lt_succ_self _) FX.out.2.2 ZX.out.1).rounds
    obtain ⟨rv, hrv⟩ : ∃ rv, rightN (SizeOf.sizeOf x + 1 + 1) x = rv := ⟨_, rfl⟩
    rw [hrv] at hkr
    have KR := Aside0.mk hkr
    have RV := Aside0.mk hrv
    obtain ⟨k1_, hk1⟩ := (same_ev _ x y (Nat.lt_succ_self _) FX.out.2.2 ZX.out.1).rounds
    obtain ⟨sv, hsv⟩ : ∃ sv, sameN (SizeOf.sizeOf x + 1) x y = sv := ⟨_, rfl⟩
    rw [hsv] at hk1
    have K1 := Aside0.mk hk1
    have SV := Aside0.mk hsv
    obtain ⟨k2_, hk2⟩ := (same_ev _ x x (Nat.lt_succ_self _) FX.out.2.2 ZX.out.1).rounds
    rw [sameN_refl] at hk2
    have K2 := Aside0.mk hk2
    have SR : Aside0 (sameN (SizeOf.sizeOf x + 1) x x = true) := ⟨sameN_refl _ _⟩
    have N0 := Aside0.mk (Seg.cons SG.out).2.1
    clear hkr hrv hk1 hsv hk2
    go_upto_region 14 with (first | fail)
    refine start_ (n := 29) (S := fun w' => HeldB w' gx gy (.int .i64 x.f0) (.int .i64 x.f1) (.int .i64 x.f2) (.int .i64 x.f3) (.slice A4 x.f4.length c4) (.slice A5 x.f5.length c5) (.int .i64 y.f0) (.int .i64 y.f1) (.int .i64 y.f2) (.int .i64 y.f3) (.slice B4 y.f4.length d4) (.slice B5 y.f5.length d5)) (ds := []) #[false, false, false, false, false, false, false, false, false, false, false, false, false, false, false, false, false, false, false, false, false, false, false, false, false, false, false, false, false] (by kernel_rfl) rfl rfl (SH.out _ (below_drew1 HB.out)) (fun hHeld => ?_)
    refine with_tabW R7b.tab R7b.bits (fun HT_ HW_ => ?_)
    have n_ := Aside0.mk (below_drew1 HB.out)
    clear HB
    have HB := n_
    clear n_
    generalize wm.drew = w20 at HB hHeld ⊢
    refine take_ (i := 0) (N := some 49) (v := ?_) (a' := ?_) #[true, false, false, false, false, false, false, false, false, false, false, false, false, false, false, false, false, false, false, false, false, false, false, false, false, false, false, false, false] rfl rfl (take_ofW HT_.out HW_.out (by kernel_rfl)) (fun _ _ _ h => h) (Or.inl ⟨by rfl, ?_⟩) hHeld ?_ ?_
    rotate_left
    ·rintro w' ⟨s0, s1, s2, s3, s4, s5, t0, t1, t2, t3, t4, t5⟩
     go_simp
     with_reducible rfl
    rotate_left
    ·simp only [Act.put, List.setIfInBounds_toArray, List.set_cons_zero, List.set_cons_succ, i64_w, i32_w]
     rfl
    refine take_ (i := 2) (N := some 51) (v := ?_) (a' := ?_) #[true, false, true, false, false, false, false, false, false, false, false, false, false, false, false, false, false, false, false, false, false, false, false, false, false, false, false, false, false] rfl rfl (take_ofW HT_.out HW_.out (by kernel_rfl)) (fun _ _ _ h => h) (Or.inl ⟨by rfl, ?_⟩) hHeld ?_ ?_
    rotate_left
    ·rintro w' ⟨s0, s1, s2, s3, s4, s5, t0, t1, t2, t3, t4, t5⟩
     go_simp
     with_reducible rfl
    rotate_left
    ·simp only [Act.put, List.setIfInBounds_toArray, List.set_cons_zero, List.set_cons_succ, i64_w, i32_w]
     rfl
    refine one_ (i := 1) (N := some 50) #[true, true, true, false, false, false, false, false, false, false, false, false, false, false, false, false, false, false, false, false, false, false, false, false, false, false, false, false, false] rfl rfl (one_of HT_.out (by kernel_rfl)) (by decide) (fun K hK => ?_)
    refine goes_ Try.func27 (by kernel_rfl) rfl #[.agg #[.int .i64 x.f0, .int .i64 x.f1, .int .i64 x.f2, .int .i64 x.f3, .slice A4 x.f4.length c4, .slice A5 x.f5.length c5]] (by rfl) rfl rfl (by (try simp only [List.map_toArray, List.map_cons, List.map_nil]); first | done | rfl) ?_
    refine (right_ (SizeOf.sizeOf x + 1 + 1) x A4 A5 c4 c5 w20 (by omega) FX.out.2.2 ZX.out.1 (Kd.C_below H4.out HB.out) (Kd.C_below H5.out HB.out)).mono ?_
    rintro e_ w21 ⟨rfl, hb⟩
    rw [RV.out]
    refine ⟨_, rfl, ?_⟩
    have n_ := Aside0.mk (below_step HB.out hb)
    clear HB
    have HB := n_
    clear n_
    clear hb
    refine hK.out _ _ (SH.out _ HB.out) (fun hHeld => ?_)
    clear hK K
    refine norm_ (a' := ?_) ?_ ?_
    rotate_left
    ·show Act.put _ (some 50) _ = _
     simp only [Act.put, List.setIfInBounds_toArray, List.set_cons_zero, List.set_cons_succ, i64_w, i32_w]
     rfl
    refine one_ (i := 3) (N := some 52) #[true, true, true, true, false, false, false, false, false, false, false, false, false, false, false, false, false, false, false, false, false, false, false, false, false, false, false, false, false] rfl rfl (one_of HT_.out (by kernel_rfl)) (by decide) (fun K hK => ?_)
    refine goes_ Try.func28 (by kernel_rfl) rfl #[.agg #[.int .i64 x.f0, .int .i64 x.f1, .int .i64 x.f2, .int .i64 x.f3, .slice A4 x.f4.length c4, .slice A5 x.f5.length c5]] (by rfl) rfl rfl (by (try simp only [List.map_toArray, List.map_cons, List.map_nil]); first | done | rfl) ?_
    refine (orielref06_Right.calls kr x.f0 x.f1 x.f2 x.f3 A4 c4 x.f4 A5 c5 x.f5 rv w21 (Kd.C_below H4.out HB.out) L4.out (Kd.C_below H5.out HB.out) L5.out KR.out).mono ?_
    rintro e_ w22 ⟨rfl, hb⟩
    refine ⟨_, rfl, ?_⟩
    have n_ := Aside0.mk (below_step HB.out hb)
    clear HB
    have HB := n_
    clear n_
    clear hb
    refine hK.out _ _ (SH.out _ HB.out) (fun hHeld => ?_)
    clear hK K
    refine norm_ (a' := ?_) ?_ ?_
    rotate_left
    ·show Act.put _ (some 52) _ = _
     simp only [Act.put, List.setIfInBounds_toArray, List.set_cons_zero, List.set_cons_succ, i64_w, i32_w]
     rfl
    refine pure_ (i := 4) (N := some 53) (v := ?_) (a' := ?_) #[true, true, true, true, true, false, false, false, false, false, false, false, false, false, false, false, false, false, false, false, false, false, false, false, false, false, false, false, false] rfl rfl (any_of HT_.out (by kernel_rfl)) (fun _ _ _ h => h) (Or.inl ⟨by rfl, ?_⟩) ?_ ?_
    rotate_left
    ·intro w'
     go_simp
     with_reducible rfl
    rotate_left
    ·simp only [Act.put, List.setIfInBounds_toArray, List.set_cons_zero, List.set_cons_succ, i64_w, i32_w]
     rfl
    refine pure_ (i := 5) (N := some 54) (v := ?_) (a' := ?_) #[true, true, true, true, true, true, false, false, false, false, false, false, false, false, false, false, false, false, false, false, false, false, false, false, false, false, false, false, false] rfl rfl (any_of HT_.out (by kernel_rfl)) (fun _ _ _ h => h) (Or.inl ⟨by rfl, ?_⟩) ?_ ?_
    rotate_left
    ·intro w'
     go_simp
     with_reducible rfl
    rotate_left
    ·simp only [Act.put, List.setIfInBounds_toArray, List.set_cons_zero, List.set_cons_succ, i64_w, i32_w]
     rfl
    refine take_ (i := 6) (N := some 55) (v := ?_) (a' := ?_) #[true, true, true, true, true, true, true, false, false, false, false, false, false, false, false, false, false, false, false, false, false, false, false, false, false, false, false, false, false] rfl rfl (take_ofW HT_.out HW_.out (by kernel_rfl)) (fun _ _ _ h => h) (Or.inl ⟨by rfl, ?_⟩) hHeld ?_ ?_
    rotate_left
    ·rintro w' ⟨s0, s1, s2, s3, s4, s5, t0, t1, t2, t3, t4, t5⟩
     go_simp
     with_reducible rfl
    rotate_left
    ·simp only [Act.put, List.setIfInBounds_toArray, List.set_cons_zero, List.set_cons_succ, i64_w, i32_w]
     rfl
    refine take_ (i := 7) (N := some 56) (v := ?_) (a' := ?_) #[true, true, true, true, true, true, true, true, false, false, false, false, false, false, false, false, false, false, false, false, false, false, false, false, false, false, false, false, false] rfl rfl (take_ofW HT_.out HW_.out (by kernel_rfl)) (fun _ _ _ h => h) (Or.inl ⟨by rfl, ?_⟩) hHeld ?_ ?_
    rotate_left
    ·rintro w' ⟨s0, s1, s2, s3, s4, s5, t0, t1, t2, t3, t4, t5⟩
     go_simp
     with_reducible rfl
    rotate_left
    ·simp only [Act.put, List.setIfInBounds_toArray, List.set_cons_zero, List.set_cons_succ, i64_w, i32_w]
     rfl
    refine take_ (i := 9) (N := some 58) (v := ?_) (a' := ?_) #[true, true, true, true, true, true, true, true, false, true, false, false, false, false, false, false, false, false, false, false, false, false, false, false, false, false, false, false, false] rfl rfl (take_ofW HT_.out HW_.out (by kernel_rfl)) (fun _ _ _ h => h) (Or.inl ⟨by rfl, ?_⟩) hHeld ?_ ?_
    rotate_left
    ·rintro w' ⟨s0, s1, s2, s3, s4, s5, t0, t1, t2, t3, t4, t5⟩
     go_simp
     with_reducible rfl
    rotate_left
    ·simp only [Act.put, List.setIfInBounds_toArray, List.set_cons_zero, List.set_cons_succ, i64_w, i32_w]
     rfl
    refine take_ (i := 10) (N := some 59) (v := ?_) (a' := ?_) #[true, true, true, true, true, true, true, true, false, true, true, false, false, false, false, false, false, false, false, false, false, false, false, false, false, false, false, false, false] rfl rfl (take_ofW HT_.out HW_.out (by kernel_rfl)) (fun _ _ _ h => h) (Or.inl ⟨by rfl, ?_⟩) hHeld ?_ ?_
    rotate_left
    ·rintro w' ⟨s0, s1, s2, s3, s4, s5, t0, t1, t2, t3, t4, t5⟩
     go_simp
     with_reducible rfl
    rotate_left
    ·simp only [Act.put, List.setIfInBounds_toArray, List.set_cons_zero, List.set_cons_succ, i64_w, i32_w]
     rfl
    refine one_ (i := 8) (N := some 57) #[true, true, true, true, true, true, true, true, true, true, true, false, false, false, false, false, false, false, false, false, false, false, false, false, false, false, false, false, false] rfl rfl (one_of HT_.out (by kernel_rfl)) (by decide) (fun K hK => ?_)
    refine goes_ Try.func29 (by kernel_rfl) rfl #[.agg #[.int .i64 x.f0, .int .i64 x.f1, .int .i64 x.f2, .int .i64 x.f3, .slice A4 x.f4.length c4, .slice A5 x.f5.length c5], .agg #[.int .i64 y.f0, .int .i64 y.f1, .int .i64 y.f2, .int .i64 y.f3, .slice B4 y.f4.length d4, .slice B5 y.f5.length d5]] (by rfl) rfl rfl (by (try simp only [List.map_toArray, List.map_cons, List.map_nil]); first | done | rfl) ?_
    refine (same_ (SizeOf.sizeOf x + 1) x y A4 A5 B4 B5 c4 c5 d4 d5 w22 (Nat.lt_succ_self _) FX.out.2.2 ZX.out.1 (Kd.C_below H4.out HB.out) L4.out (Kd.C_below H5.out HB.out) L5.out (Kd.C_below I4.out HB.out) M4.out (Kd.C_below I5.out HB.out) M5.out).mono ?_
    rintro e_ w23 ⟨rfl, hb⟩
    rw [SV.out]
    refine ⟨_, rfl, ?_⟩
    have n_ := Aside0.mk (below_step HB.out hb)
    clear HB
    have HB := n_
    clear n_
    clear hb
    refine hK.out _ _ (SH.out _ HB.out) (fun hHeld => ?_)
    clear hK K
    refine norm_ (a' := ?_) ?_ ?_
    rotate_left
    ·show Act.put _ (some 57) _ = _
     simp only [Act.put, List.setIfInBounds_toArray, List.set_cons_zero, List.set_cons_succ, i64_w, i32_w]
     rfl
    refine one_ (i := 11) (N := some 60) #[true, true, true, true, true, true, true, true, true, true, true, true, false, false, false, false, false, false, false, false, false, false, false, false, false, false, false, false, false] rfl rfl (one_of HT_.out (by kernel_rfl)) (by decide) (fun K hK => ?_)
    refine goes_ Try.func22 (by kernel_rfl) rfl #[.agg #[.int .i64 x.f0, .int .i64 x.f1, .int .i64 x.f2, .int .i64 x.f3, .slice A4 x.f4.length c4, .slice A5 x.f5.length c5], .agg #[.int .i64 y.f0, .int .i64 y.f1, .int .i64 y.f2, .int .i64 y.f3, .slice B4 y.f4.length d4, .slice B5 y.f5.length d5]] (by rfl) rfl rfl (by (try simp only [List.map_toArray, List.map_cons, List.map_nil]); first | done | rfl) ?_
    refine (orielref06_Same.calls k1_ x.f0 x.f1 x.f2 x.f3 A4 c4 x.f4 A5 c5 x.f5 y.f0 y.f1 y.f2 y.f3 B4 d4 y.f4 B5 d5 y.f5 sv w23 (Kd.C_below H4.out HB.out) L4.out (Kd.C_below H5.out HB.out) L5.out (Kd.C_below I4.out HB.out) M4.out (Kd.C_below I5.out HB.out) M5.out K1.out).mono ?_
    rintro e_ w24 ⟨rfl, hb⟩
    refine ⟨_, rfl, ?_⟩
    have n_ := Aside0.mk (below_step HB.out hb)
    clear HB
    have HB := n_
    clear n_
    clear hb
    refine hK.out _ _ (SH.out _ HB.out) (fun hHeld => ?_)
    clear hK K
    refine norm_ (a' := ?_) ?_ ?_
    rotate_left
    ·show Act.put _ (some 60) _ = _
     simp only [Act.put, List.setIfInBounds_toArray, List.set_cons_zero, List.set_cons_succ, i64_w, i32_w]
     rfl
    refine pure_ (i := 12) (N := some 61) (v := ?_) (a' := ?_) #[true, true, true, true, true, true, true, true, true, true, true, true, true, false, false, false, false, false, false, false, false, false, false, false, false, false, false, false, false] rfl rfl (any_of HT_.out (by kernel_rfl)) (fun _ _ _ h => h) (Or.inl ⟨by rfl, ?_⟩) ?_ ?_
    rotate_left
    ·intro w'
     go_simp
     with_reducible rfl
    rotate_left
    ·simp only [Act.put, List.setIfInBounds_toArray, List.set_cons_zero, List.set_cons_succ, i64_w, i32_w]
     rfl
    refine pure_ (i := 13) (N := some 62) (v := ?_) (a' := ?_) #[true, true, true, true, true, true, true, true, true, true, true, true, true, true, false, false, false, false, false, false, false, false, false, false, false, false, false, false, false] rfl rfl (any_of HT_.out (by kernel_rfl)) (fun _ _ _ h => h) (Or.inl ⟨by rfl, ?_⟩) ?_ ?_
    rotate_left
    ·intro w'
     go_simp
     with_reducible rfl
    rotate_left
    ·simp only [Act.put, List.setIfInBounds_toArray, List.set_cons_zero, List.set_cons_succ, i64_w, i32_w]
     rfl
    refine pure_ (i := 14) (N := some 63) (v := ?_) (a' := ?_) #[true, true, true, true, true, true, true, true, true, true, true, true, true, true, true, false, false, false, false, false, false, false, false, false, false, false, false, false, false] rfl rfl (any_of HT_.out (by kernel_rfl)) (fun _ _ _ h => h) (Or.inl ⟨by rfl, ?_⟩) ?_ ?_
    rotate_left
    ·intro w'
     go_simp
     with_reducible rfl
    rotate_left
    ·simp only [Act.put, List.setIfInBounds_toArray, List.set_cons_zero, List.set_cons_succ, i64_w, i32_w]
     rfl
    refine take_ (i := 15) (N := some 64) (v := ?_) (a' := ?_) #[true, true, true, true, true, true, true, true, true, true, true, true, true, true, true, true, false, false, false, false, false, false, false, false, false, false, false, false, false] rfl rfl (take_ofW HT_.out HW_.out (by kernel_rfl)) (fun _ _ _ h => h) (Or.inl ⟨by rfl, ?_⟩) hHeld ?_ ?_
    rotate_left
    ·rintro w' ⟨s0, s1, s2, s3, s4, s5, t0, t1, t2, t3, t4, t5⟩
     go_simp
     with_reducible rfl
    rotate_left
    ·simp only [Act.put, List.setIfInBounds_toArray, List.set_cons_zero, List.set_cons_succ, i64_w, i32_w]
     rfl
    refine take_ (i := 16) (N := some 65) (v := ?_) (a' := ?_) #[true, true, true, true, true, true, true, true, true, true, true, true, true, true, true, true, true, false, false, false, false, false, false, false, false, false, false, false, false] rfl rfl (take_ofW HT_.out HW_.out (by kernel_rfl)) (fun _ _ _ h => h) (Or.inl ⟨by rfl, ?_⟩) hHeld ?_ ?_
    rotate_left
    ·rintro w' ⟨s0, s1, s2, s3, s4, s5, t0, t1, t2, t3, t4, t5⟩
     go_simp
     with_reducible rfl
    rotate_left
    ·simp only [Act.put, List.setIfInBounds_toArray, List.set_cons_zero, List.set_cons_succ, i64_w, i32_w]
     rfl
    refine one_ (i := 17) (N := some 66) #[true, true, true, true, true, true, true, true, true, true, true, true, true, true, true, true, true, true, false, false, false, false, false, false, false, false, false, false, false] rfl rfl (one_of HT_.out (by kernel_rfl)) (by decide) (fun K hK => ?_)
    refine goes_ Try.func29 (by kernel_rfl) rfl #[.agg #[.int .i64 x.f0, .int .i64 x.f1, .int .i64 x.f2, .int .i64 x.f3, .slice A4 x.f4.length c4, .slice A5 x.f5.length c5], .agg #[.int .i64 x.f0, .int .i64 x.f1, .int .i64 x.f2, .int .i64 x.f3, .slice A4 x.f4.length c4, .slice A5 x.f5.length c5]] (by rfl) rfl rfl (by (try simp only [List.map_toArray, List.map_cons, List.map_nil]); first | done | rfl) ?_
    refine (same_ (SizeOf.sizeOf x + 1) x x A4 A5 A4 A5 c4 c5 c4 c5 w24 (Nat.lt_succ_self _) FX.out.2.2 ZX.out.1 (Kd.C_below H4.out HB.out) L4.out (Kd.C_below H5.out HB.out) L5.out (Kd.C_below H4.out HB.out) L4.out (Kd.C_below H5.out HB.out) L5.out).mono ?_
    rintro e_ w25 ⟨rfl, hb⟩
    rw [SR.out]
    refine ⟨_, rfl, ?_⟩
    have n_ := Aside0.mk (below_step HB.out hb)
    clear HB
    have HB := n_
    clear n_
    clear hb
    refine hK.out _ _ (SH.out _ HB.out) (fun hHeld => ?_)
    clear hK K
    refine norm_ (a' := ?_) ?_ ?_
    rotate_left
    ·show Act.put _ (some 66) _ = _
     simp only [Act.put, List.setIfInBounds_toArray, List.set_cons_zero, List.set_cons_succ, i64_w, i32_w]
     rfl
    refine pure_ (i := 18) (N := some 67) (v := ?_) (a' := ?_) #[true, true, true, true, true, true, true, true, true, true, true, true, true, true, true, true, true, true, true, false, false, false, false, false, false, false, false, false, false] rfl rfl (any_of HT_.out (by kernel_rfl)) (fun _ _ _ h => h) (Or.inl ⟨by rfl, ?_⟩) ?_ ?_
    rotate_left
    ·intro w'
     go_simp
     with_reducible rfl
    rotate_left
    ·simp only [Act.put, List.setIfInBounds_toArray, List.set_cons_zero, List.set_cons_succ, i64_w, i32_w]
     rfl
    refine pure_ (i := 19) (N := some 68) (v := ?_) (a' := ?_) #[true, true, true, true, true, true, true, true, true, true, true, true, true, true, true, true, true, true, true, true, false, false, false, false, false, false, false, false, false] rfl rfl (any_of HT_.out (by kernel_rfl)) (fun _ _ _ h => h) (Or.inl ⟨by rfl, ?_⟩) ?_ ?_
    rotate_left
    ·intro w'
     go_simp
     with_reducible rfl
    rotate_left
    ·simp only [Act.put, List.setIfInBounds_toArray, List.set_cons_zero, List.set_cons_succ, i64_w, i32_w]
     rfl
    refine pure_ (i := 20) (N := some 69) (v := ?_) (a' := ?_) #[true, true, true, true, true, true, true, true, true, true, true, true, true, true, true, true, true, true, true, true, true, false, false, false, false, false, false, false, false] rfl rfl (any_of HT_.out (by kernel_rfl)) (fun _ _ _ h => h) (Or.inl ⟨by rfl, ?_⟩) ?_ ?_
    rotate_left
    ·intro w'
     go_simp
     with_reducible rfl
    rotate_left
    ·simp only [Act.put, List.setIfInBounds_toArray, List.set_cons_zero, List.set_cons_succ, i64_w, i32_w]
     rfl
    refine take_ (i := 22) (N := some 71) (v := ?_) (a' := ?_) #[true, true, true, true, true, true, true, true, true, true, true, true, true, true, true, true, true, true, true, true, true, false, true, false, false, false, false, false, false] rfl rfl (take_ofW HT_.out HW_.out (by kernel_rfl)) (fun _ _ _ h => h) (Or.inl ⟨by rfl, ?_⟩) hHeld ?_ ?_
    rotate_left
    ·rintro w' ⟨s0, s1, s2, s3, s4, s5, t0, t1, t2, t3, t4, t5⟩
     go_simp
     with_reducible rfl
    rotate_left
    ·simp only [Act.put, List.setIfInBounds_toArray, List.set_cons_zero, List.set_cons_succ, i64_w, i32_w]
     rfl
    refine one_ (i := 21) (N := some 70) #[true, true, true, true, true, true, true, true, true, true, true, true, true, true, true, true, true, true, true, true, true, true, true, false, false, false, false, false, false] rfl rfl (one_of HT_.out (by kernel_rfl)) (by decide) (fun K hK => ?_)
    refine goes_ Try.func23 (by kernel_rfl) rfl #[.pointer (some ⟨g, 0, none⟩), .int .i64 0] (by rfl) rfl rfl (by (try simp only [List.map_toArray, List.map_cons, List.map_nil]); first | done | rfl) ?_
    refine (BR.out _ ⟨x, -1, 1⟩ 0 0 g w25 (Nat.lt_succ_self _) rfl N0.out (TT.out.below HB.out)).mono ?_
    rintro e_ w26 ⟨u4, u5, rfl, hr4, hr5, hb⟩
    obtain ⟨B4_, e4, q4⟩ := Kd.R_slice hr4
    obtain ⟨B5_, e5, q5⟩ := Kd.R_slice hr5
    subst q4
    subst q5
    refine ⟨_, rfl, ?_⟩
    have LU4 := Aside0.mk (Kd.R_reads' hr4).2.1
    have CU4 := Aside0.mk (Kd.R_reads' hr4).2.2
    have LU5 := Aside0.mk (Kd.R_reads' hr5).2.1
    have CU5 := Aside0.mk (Kd.R_reads' hr5).2.2
    clear hr4 hr5
    have n_ := Aside0.mk (below_step HB.out hb)
    clear HB
    have HB := n_
    clear n_
    clear hb
    refine hK.out _ _ (SH.out _ HB.out) (fun hHeld => ?_)
    clear hK K
    refine norm_ (a' := ?_) ?_ ?_
    rotate_left
    ·show Act.put _ (some 70) _ = _
     simp only [Act.put, List.setIfInBounds_toArray, List.set_cons_zero, List.set_cons_succ, i64_w, i32_w]
     rfl
    refine one_ (i := 23) (N := some 72) #[true, true, true, true, true, true, true, true, true, true, true, true, true, true, true, true, true, true, true, true, true, true, true, true, false, false, false, false, false] rfl rfl (one_of HT_.out (by kernel_rfl)) (by decide) (fun K hK => ?_)
    refine goes_ Try.func22 (by kernel_rfl) rfl #[.agg #[.int .i64 x.f0, .int .i64 x.f1, .int .i64 x.f2, .int .i64 x.f3, .slice B4_ x.f4.length e4, .slice B5_ x.f5.length e5], .agg #[.int .i64 x.f0, .int .i64 x.f1, .int .i64 x.f2, .int .i64 x.f3, .slice A4 x.f4.length c4, .slice A5 x.f5.length c5]] (by rfl) rfl rfl (by (try simp only [List.map_toArray, List.map_cons, List.map_nil]); first | done | rfl) ?_
    refine (orielref06_Same.calls k2_ x.f0 x.f1 x.f2 x.f3 B4_ e4 x.f4 B5_ e5 x.f5 x.f0 x.f1 x.f2 x.f3 A4 c4 x.f4 A5 c5 x.f5 true w26 CU4.out LU4.out CU5.out LU5.out (Kd.C_below H4.out HB.out) L4.out (Kd.C_below H5.out HB.out) L5.out K2.out).mono ?_
    rintro e_ w27 ⟨rfl, hb⟩
    refine ⟨_, rfl, ?_⟩
    have n_ := Aside0.mk (below_step HB.out hb)
    clear HB
    have HB := n_
    clear n_
    clear hb
    refine hK.out _ _ (SH.out _ HB.out) (fun hHeld => ?_)
    clear hK K
    refine norm_ (a' := ?_) ?_ ?_
    rotate_left
    ·show Act.put _ (some 72) _ = _
     simp only [Act.put, List.setIfInBounds_toArray, List.set_cons_zero, List.set_cons_succ, i64_w, i32_w]
     rfl
    refine pure_ (i := 24) (N := some 73) (v := ?_) (a' := ?_) #[true, true, true, true, true, true, true, true, true, true, true, true, true, true, true, true, true, true, true, true, true, true, true, true, true, false, false, false, false] rfl rfl (any_of HT_.out (by kernel_rfl)) (fun _ _ _ h => h) (Or.inl ⟨by rfl, ?_⟩) ?_ ?_
    rotate_left
    ·intro w'
     go_simp
     with_reducible rfl
    rotate_left
    ·simp only [Act.put, List.setIfInBounds_toArray, List.set_cons_zero, List.set_cons_succ, i64_w, i32_w]
     rfl
    refine pure_ (i := 25) (N := some 74) (v := ?_) (a' := ?_) #[true, true, true, true, true, true, true, true, true, true, true, true, true, true, true, true, true, true, true, true, true, true, true, true, true, true, false, false, false] rfl rfl (any_of HT_.out (by kernel_rfl)) (fun _ _ _ h => h) (Or.inl ⟨by rfl, ?_⟩) ?_ ?_
    rotate_left
    ·intro w'
     go_simp
     with_reducible rfl
    rotate_left
    ·simp only [Act.put, List.setIfInBounds_toArray, List.set_cons_zero, List.set_cons_succ, i64_w, i32_w]
     rfl
    refine one_ (i := 26) (N := some 75) #[true, true, true, true, true, true, true, true, true, true, true, true, true, true, true, true, true, true, true, true, true, true, true, true, true, true, true, false, false] rfl rfl (one_of HT_.out (by kernel_rfl)) (by decide) (fun K hK => ?_)
    refine goes_ Try.func13 (by kernel_rfl) rfl #[] (by rfl) rfl rfl (by (try simp only [List.map_toArray, List.map_cons, List.map_nil]); first | done | rfl) ?_
    refine (alive w27).mono ?_
    rintro e_ w28 ⟨rfl, hb⟩
    refine ⟨_, rfl, ?_⟩
    have n_ := Aside0.mk (below_step HB.out hb)
    clear HB
    have HB := n_
    clear n_
    clear hb
    refine hK.out _ _ (SH.out _ HB.out) (fun hHeld => ?_)
    clear hK K
    refine norm_ (a' := ?_) ?_ ?_
    rotate_left
    ·show Act.put _ (some 75) _ = _
     simp only [Act.put, List.setIfInBounds_toArray, List.set_cons_zero, List.set_cons_succ, i64_w, i32_w]
     rfl
    refine pure_ (i := 27) (N := some 76) (v := ?_) (a' := ?_) #[true, true, true, true, true, true, true, true, true, true, true, true, true, true, true, true, true, true, true, true, true, true, true, true, true, true, true, true, false] rfl rfl (any_of HT_.out (by kernel_rfl)) (fun _ _ _ h => h) (Or.inl ⟨by rfl, ?_⟩) ?_ ?_
    rotate_left
    ·intro w'
     go_simp
     with_reducible rfl
    rotate_left
    ·simp only [Act.put, List.setIfInBounds_toArray, List.set_cons_zero, List.set_cons_succ, i64_w, i32_w]
     rfl
    refine pure_ (i := 28) (N := some 4) (v := ?_) (a' := ?_) #[true, true, true, true, true, true, true, true, true, true, true, true, true, true, true, true, true, true, true, true, true, true, true, true, true, true, true, true, true] rfl rfl (any_of HT_.out (by kernel_rfl)) (fun _ _ _ h => h) (Or.inl ⟨by rfl, ?_⟩) ?_ ?_
    rotate_left
    ·intro w'
     go_simp
     with_reducible rfl
    rotate_left
    ·simp only [Act.put, List.setIfInBounds_toArray, List.set_cons_zero, List.set_cons_succ, i64_w, i32_w]
     rfl
    refine done_ (done_of HT_.out (by kernel_rfl)) ?_
    go_wp2
    go_ret
    exact ⟨rfl, below_step HM.out HB.out⟩
theorem law (x y : S25) (A4 A5 B4 B5 : Option Addr) (c4 c5 d4 d5 : Nat) (w : World) (h4 : Kd.C (Kd.int .i64) w A4 x.f4.length x.f4) (l4 : x.f4.length ≤ c4) (h5 : Kd.C k25 w A5 x.f5.length x.f5) (l5 : x.f5.length ≤ c5) (i4 : Kd.C (Kd.int .i64) w B4 y.f4.length y.f4) (m4 : y.f4.length ≤ d4) (i5 : Kd.C k25 w B5 y.f5.length y.f5) (m5 : y.f5.length ≤ d5) :
  Calls Try.prog 7 #[.agg #[.int .i64 x.f0, .int .i64 x.f1, .int .i64 x.f2, .int .i64 x.f3, .slice A4 x.f4.length c4, .slice A5 x.f5.length c5], .agg #[.int .i64 y.f0, .int .i64 y.f1, .int .i64 y.f2, .int .i64 y.f3, .slice B4 y.f4.length d4, .slice B5 y.f5.length d5]] w fun e w' => e = .returned (.bool true) ∧ Below w.heap.size w w' := by
 cases hf : fewB x with
 | false => exact lawNo x y A4 A5 B4 B5 c4 c5 d4 d5 w h4 l4 h5 l5 i4 m4 i5 m5 (Or.inl hf)
 | true =>
  cases hf2 : fewB y with
  | false => exact lawNo x y A4 A5 B4 B5 c4 c5 d4 d5 w h4 l4 h5 l5 i4 m4 i5 m5 (Or.inr ⟨hf, hf2⟩)
  | true => exact lawYes x y A4 A5 B4 B5 c4 c5 d4 d5 w h4 l4 h5 l5 i4 m4 i5 m5 hf hf2
end Go.Proofs.Ytemdnmidhmddlaa.TreeBack
namespace Go.Proofs.Ytemdnmidhmddlaa.PAll
open Go Go.RowKit Go.Proofs.YtemdnmidhmddlaaW.PrintWords
def oriellaw06_TreeBack.f (_x _y : S25) : Option Bool := some true
theorem oriellaw06_TreeBack.calls (x : S25) (A4 : Option Addr) (c4 : Nat) (A5 : Option Addr) (c5 : Nat) (y : S25) (B4 : Option Addr) (d4 : Nat) (B5 : Option Addr) (d5 : Nat) (r : Bool) (w : World) (h4 : Kd.C (Kd.int .i64) w A4 x.f4.length x.f4) (l4 : x.f4.length ≤ c4) (h5 : Kd.C k25 w A5 x.f5.length x.f5) (l5 : x.f5.length ≤ c5) (i4 : Kd.C (Kd.int .i64) w B4 y.f4.length y.f4) (m4 : y.f4.length ≤ d4) (i5 : Kd.C k25 w B5 y.f5.length y.f5) (m5 : y.f5.length ≤ d5) (h : oriellaw06_TreeBack.f x y = some r) :
  Calls Try.prog 7 #[.agg #[.int .i64 x.f0, .int .i64 x.f1, .int .i64 x.f2, .int .i64 x.f3, .slice A4 x.f4.length c4, .slice A5 x.f5.length c5], .agg #[.int .i64 y.f0, .int .i64 y.f1, .int .i64 y.f2, .int .i64 y.f3, .slice B4 y.f4.length d4, .slice B5 y.f5.length d5]] w fun e w' => e = .returned (.bool r) ∧ Below w.heap.size w w' := by
 injection h with h
 subst h
 exact TreeBack.law x y A4 A5 B4 B5 c4 c5 d4 d5 w h4 l4 h5 l5 i4 m4 i5 m5
end Go.Proofs.Ytemdnmidhmddlaa.PAll
