/- The law TreeMakes, walked. Conditions: none. -/
import Derived.Test.YtemdnmidhmddlaaTrO
import Derived.Test.YtemdnmidhmddlaaTpG
namespace Go.Proofs.Ytemdnmidhmddlaa.TreeMakes
open Go Go.RowKit Go.Proofs.YtemdnmidhmddlaaW.PrintWords Go.Proofs.YtemdnmidhmddlaaW.PrintLast Go.Proofs.YtemdnmidhmddlaaW.PrintMore Go.Proofs.Ytemdnmidhmddlaa.PAll Go.Proofs.Ytemdnmidhmddlaa.Tree
set_option linter.unusedVariables false
set_option linter.unusedSimpArgs false
def R33.T : Bool × List (List Nat × List Nat) := (true, [([], []), ([0], [0]), ([1], [1]), ([2, 1], [1, 2]), ([1], [1]), ([1], [1]), ([4, 5, 1], [1, 4, 5]), ([6, 1], [1, 6]), ([7, 1], [1, 7]), ([8, 1], [1, 8]), ([3, 9, 1], [1, 3, 9]), ([1, 10], [1, 10]), ([11, 1], [11]), ([12], [12]), ([13, 12], [12, 13]), ([12], [12]), ([12], [12]), ([15, 16, 12], [12, 15, 16]), ([17, 12], [12, 17]), ([18, 12], [12, 18]), ([19, 12], [12, 19]), ([14, 20, 12], [12, 14, 20]), ([12, 21], [12, 21]), ([22, 12], [22]), ([23], [23]), ([24, 23], [23, 24]), ([23], [23]), ([23], [23]), ([26, 27, 23], [23, 26, 27]), ([28, 23], [23, 28]), ([29, 23], [23, 29]), ([30, 23], [23, 30]), ([25, 31, 23], [23, 25, 31]), ([23, 32], [23, 32]), ([33, 23], [33]), ([34], [34]), ([35, 34], [34, 35]), ([34], [34]), ([34], [34]), ([37, 38, 34], [34, 37, 38]), ([39, 34], [34, 39]), ([40, 34], [34, 40]), ([41, 34], [34, 41]), ([36, 42, 34], [34, 36, 42]), ([34, 43], [34, 43]), ([44, 34], [44]), ([45], [45]), ([46, 45], [45, 46]), ([45], [45]), ([45], [45]), ([48, 49, 45], [45, 48, 49]), ([50, 45], [45, 50]), ([51, 45], [45, 51]), ([47, 52, 45], [45, 47, 52]), ([45, 53], [45, 53]), ([54, 45], [54]), ([55], [55]), ([56, 55], [55, 56]), ([55], [55]), ([57, 58, 55], [55, 57, 58]), ([55, 59], [55, 59]), ([60, 55], [60]), ([61], [61]), ([62, 61], [61, 62]), ([61], [61]), ([63, 64, 61], [61, 63, 64]), ([61, 65], [61, 65]), ([66, 61], [66]), ([67], [67]), ([67], [67]), ([68, 69, 67, 67], [67, 68, 69]), ([67], [67]), ([67], [67]), ([71, 72, 67], [67, 71, 72]), ([73, 67], [67, 73]), ([74, 67], [67, 74]), ([75, 67], [67, 75]), ([70, 76, 70, 67], [67, 70, 76]), ([67, 77], [67, 77]), ([78, 77], [78]), ([79], [79]), ([79], [79]), ([80, 81, 79, 79], [79, 80, 81]), ([79], [79]), ([82, 83, 82, 79], [79, 82, 83]), ([79, 84], [79, 84]), ([85, 84], [85]), ([86], [86]), ([86], [86]), ([87, 88, 86, 86], [86, 87, 88]), ([86], [86]), ([86], [86]), ([90, 91, 86], [86, 90, 91]), ([92, 86], [86, 92]), ([93, 86], [86, 93]), ([89, 94, 86], [86, 89, 94]), ([86, 95], [86, 95]), ([96, 89], [96]), ([97], [97]), ([97], [97]), ([98, 99, 97, 97], [97, 98, 99]), ([97], [97]), ([100, 101, 100, 97], [97, 100, 101]), ([97, 102], [97, 102]), ([103, 102], [103]), ([104], [104]), ([104], [104]), ([105, 106, 104, 104], [104, 105, 106]), ([104], [104]), ([107, 108, 107, 104], [104, 107, 108]), ([104, 109], [104, 109]), ([110, 109], [110]), ([111, 111], [111]), ([111, 112], [111, 112]), ([113, 112, 0, 1, 2, 3, 4, 5, 6, 7, 8, 9, 10, 11, 12, 13, 14, 15, 16, 17, 18, 19, 20, 21, 22, 23, 24, 25, 26, 27, 28, 29, 30, 31, 32, 33, 34, 35, 36, 37, 38, 39, 40, 41, 42, 43, 44, 45, 46, 47, 48, 49, 50, 51, 52, 53, 54, 55, 56, 57, 58, 59, 60, 61, 62, 63, 64, 65, 66, 67, 68, 69, 70, 71, 72, 73, 74, 75, 76, 77, 78, 79, 80, 81, 82, 83, 84, 85, 86, 87, 88, 89, 90, 91, 92, 93, 94, 95, 96, 97, 98, 99, 100, 101, 102, 103, 104, 105, 106, 107, 108, 109, 110, 111, 112, 113], [113])])
def R33.B : List Nat := [0, 1, 3, 7, 3, 3, 51, 115, 243, 499, 1023, 2047, 4095, 8191, 16383, 8191, 8191, 106495, 237567, 499711, 1023999, 2097151, 4194303, 8388607, 16777215, 33554431, 16777215, 16777215, 218103807, 486539263, 1023410175, 2097151999, 4294967295, 8589934591, 17179869183, 34359738367, 68719476735, 34359738367, 34359738367, 446676598783, 996432412671, 2095944040447, 4294967295999, 8796093022207, 17592186044415, 35184372088831, 70368744177663, 140737488355327, 70368744177663, 70368744177663, 914793674309631, 2040693581152255, 4292493394837503, 9007199254740991, 18014398509481983, 36028797018963967, 72057594037927935, 144115188075855871, 72057594037927935, 576460752303423487, 1152921504606846975, 2305843009213693951, 4611686018427387903, 9223372036854775807, 4611686018427387903, 36893488147419103231, 73786976294838206463, 147573952589676412927, 295147905179352825855, 295147905179352825855, 1180591620717411303423, 295147905179352825855, 295147905179352825855, 7378697629483820646399, 16823430595223111073791, 35712896526701691928575, 73491828389658853638143, 151115727451828646838271, 302231454903657293676543, 604462909807314587353087, 1208925819614629174706175, 1208925819614629174706175, 4835703278458516698824703, 1208925819614629174706175, 19342813113834066795298815, 38685626227668133590597631, 77371252455336267181195263, 154742504910672534362390527, 154742504910672534362390527, 618970019642690137449562111, 154742504910672534362390527, 154742504910672534362390527, 3868562622766813359059763199, 8820322779908334458656260095, 18723843094191376657849253887, 39614081257132168796771975167, 79228162514264337593543950335, 158456325028528675187087900671, 316912650057057350374175801343, 316912650057057350374175801343, 1267650600228229401496703205375, 316912650057057350374175801343, 5070602400912917605986812821503, 10141204801825835211973625643007, 20282409603651670423947251286015, 40564819207303340847894502572031, 40564819207303340847894502572031, 162259276829213363391578010288127, 40564819207303340847894502572031, 649037107316853453566312041152511, 1298074214633706907132624082305023, 2596148429267413814265248164610047, 5192296858534827628530496329220095, 10384593717069655257060992658440191, 20769187434139310514121985316880383]
theorem R33.tab : rtab .any (opsOf Try.f5 33) = R33.T := by kernel_rfl
theorem R33.bits : waitsOk R33.T.2 R33.B = true := by kernel_rfl
attribute [local go_sem high] eqA39
set_option maxHeartbeats 8000000 in
set_option maxRecDepth 100000 in
theorem lawIn (x : S25) (n : Int) (A4 A5 : Option Addr) (c4 c5 : Nat) (w : World) (h4 : Kd.C (Kd.int .i64) w A4 x.f4.length x.f4) (l4 : x.f4.length ≤ c4) (h5 : Kd.C k25 w A5 x.f5.length x.f5) (l5 : x.f5.length ≤ c5) (hf : fewB x = true) (cn : 0 ≤ n ∧ n < ((rwL [x] (-1) 1 0).length : Int)) :
    Calls Try.prog 5 #[.agg #[.int .i64 x.f0, .int .i64 x.f1, .int .i64 x.f2, .int .i64 x.f3, .slice A4 x.f4.length c4, .slice A5 x.f5.length c5], .int .i64 n] w fun e w' => e = .returned (.bool true) ∧ Below w.heap.size w w' := by
  have HM := Aside0.mk (Below.refl w.heap.size w)
  have H4 := Aside0.mk h4
  have H5 := Aside0.mk h5
  have L4 := Aside0.mk l4
  have L5 := Aside0.mk l5
  clear h4 h5 l4 l5
  have EF := Aside0.mk hf
  clear hf
  have FF := Aside0.mk (fewB_t EF.out)
  have EL : Aside0 ((knL [x] (-1) 0).length = (rwL [x] (-1) 1 0).length) := ⟨(kn_len _ _ _).trans (rw_len _ _ _ _).symm⟩
  have LR : Aside0 ((rwL [x] (-1) 1 0).length = szL [x]) := ⟨rw_len _ _ _ _⟩
  have SG := Aside0.mk (Seg.whole x)
  go_enter Try.func5, Try.ntmps5
  go_upto_region 5 with (first | ((with_reducible refine gate_dst (N := 2) rfl ?_); refine box_event ?hg (N := 2) ?hd (cs := #[.int .i64 x.f0, .int .i64 x.f1, .int .i64 x.f2, .int .i64 x.f3, .slice A4 x.f4.length c4, .slice A5 x.f5.length c5]) (t := 25) ?hr ?_; (case hd => rfl); (case hg => rfl); (case hr => first | (go_simp; done) | (go_simp; rfl)); intro gb hg w1 hbox hb; have BX := Aside0.mk hbox; have n_ := Aside0.mk (Kd.C_below H4.out hb); clear H4; have H4 := n_; clear n_; have n_ := Aside0.mk (Kd.C_below H5.out hb); clear H5; have H5 := n_; clear n_; have n_ := Aside0.mk (below_step (by repeat (first | (with_reducible first | exact HM.out | apply below_alloc | apply pw_below_drewN | apply below_drew1) | exact HM.out)) hb); clear HM; have HM := n_; clear n_; clear hb hbox hg; (try clear y0 y1 y2 y3 y4 y5); obtain ⟨y0, y1, y2, y3, y4, y5⟩ := held6 BX.out) | (go_at_call 8; refine (few_ x A4 A5 c4 c5 _ H4.out L4.out H5.out L5.out).mono ?_; rintro e w9 ⟨rfl, hb⟩; rw [EF.out]; have n_ := Aside0.mk (Kd.C_below H4.out hb); clear H4; have H4 := n_; clear n_; have n_ := Aside0.mk (Kd.C_below H5.out hb); clear H5; have H5 := n_; clear n_; have n_ := Aside0.mk (blk_below BX.out hb); clear BX; have BX := n_; clear n_; have n_ := Aside0.mk (below_step (by repeat (first | (with_reducible first | exact HM.out | apply below_alloc | apply pw_below_drewN | apply below_drew1) | exact HM.out)) hb); clear HM; have HM := n_; clear n_; clear hb; (try clear y0 y1 y2 y3 y4 y5); obtain ⟨y0, y1, y2, y3, y4, y5⟩ := held6 BX.out) | (go_at_call 9; refine (make_ x A4 A5 c4 c5 _ FF.out.2.2 (by have := FF.out.1; omega) H4.out H5.out).mono ?_; rintro e wT ⟨g, rfl, ht, hb⟩; have TT := Aside0.mk ht; have n_ := Aside0.mk (Kd.C_below H4.out hb); clear H4; have H4 := n_; clear n_; have n_ := Aside0.mk (Kd.C_below H5.out hb); clear H5; have H5 := n_; clear n_; have n_ := Aside0.mk (blk_below BX.out hb); clear BX; have BX := n_; clear n_; have n_ := Aside0.mk (below_step (by repeat (first | (with_reducible first | exact HM.out | apply below_alloc | apply pw_below_drewN | apply below_drew1) | exact HM.out)) hb); clear HM; have HM := n_; clear n_; clear hb ht; (try clear y0 y1 y2 y3 y4 y5); obtain ⟨y0, y1, y2, y3, y4, y5⟩ := held6 BX.out) | (go_at_call 12; refine (Rows_ x A4 A5 c4 c5 _ (by have := FF.out.1; omega) H4.out L4.out H5.out L5.out).mono ?_; rintro e wR ⟨A, c, rfl, hc, hC, hb⟩; have HC := Aside0.mk hC; have LC := Aside0.mk hc; have n_ := Aside0.mk (Kd.C_below H4.out hb); clear H4; have H4 := n_; clear n_; have n_ := Aside0.mk (Kd.C_below H5.out hb); clear H5; have H5 := n_; clear n_; have n_ := Aside0.mk (blk_below BX.out hb); clear BX; have BX := n_; clear n_; have n_ := Aside0.mk (TT.out.below hb); clear TT; have TT := n_; clear n_; have n_ := Aside0.mk (below_step (by repeat (first | (with_reducible first | exact HM.out | apply below_alloc | apply pw_below_drewN | apply below_drew1) | exact HM.out)) hb); clear HM; have HM := n_; clear n_; clear hb hC hc y0 y1 y2 y3 y4 y5))
  have HT := Aside0.mk (Below.refl wR.heap.size wR)
  have d1 : decide (n < 0) = false := decide_eq_false (by omega)
  have d2 : decide (n ≥ ((rwL [x] (-1) 1 0).length : Int)) = false := decide_eq_false (by omega)
  obtain ⟨m, em⟩ : ∃ m : Nat, n = (m : Int) := ⟨n.toNat, by omega⟩
  have EM := Aside0.mk em
  have CN := Aside0.mk cn
  clear em cn
  go_upto_region 10 with (first | (go_at_call 15; refine (len_ (some ⟨g, 0, none⟩) (knL [x] (-1) 0) (nmL [x]) _ ⟨by rw [nm_len, kn_len], Or.inr ⟨g, rfl, (TT.out.below (by repeat (first | (with_reducible first | exact HT.out | apply below_alloc | apply pw_below_drewN | apply below_drew1) | exact HT.out)))⟩⟩).mono ?_; rintro e w9 ⟨rfl, hb⟩; rw [EL.out]; have n_ := Aside0.mk (below_step (by repeat (first | (with_reducible first | exact HT.out | apply below_alloc | apply pw_below_drewN | apply below_drew1) | exact HT.out)) hb); clear HT; have HT := n_; clear n_; clear hb))
  obtain ⟨en, hnode, hszn⟩ := node_at _ [x] (-1) 1 0 (Nat.lt_succ_self _) SG.out m (Nat.zero_le _) (by have := EM.out; have := CN.out; have := LR.out; omega)
  obtain ⟨nx, hkn⟩ := hnode.hk
  obtain ⟨ad, _, _, _, _, eA, _, _, _, _, _, _, _, _, _, _, _, _⟩ := at_T46 HC.out n CN.out.1 CN.out.2
  subst eA
  have ER : Aside0 (rd_T46 (rwL [x] (-1) 1 0) n = en) := ⟨by rw [EM.out, rd46 hnode.hr]⟩
  have KV : Aside0 (knotV (knotF (knL [x] (-1) 0) n) = .agg #[.int .i64 en.f0.f0, .int .i64 en.f0.f1, .int .i64 en.f0.f2, .int .i64 en.f0.f3, .int .i64 en.f1, .int .i64 (fst en.f0.f5 (m + 1)), .int .i64 nx] ∧ hasB (knL [x] (-1) 0) n = true) := ⟨by
    have h_ := has_at hkn
    unfold knotF
    rw [EM.out, if_pos h_, rd39 hkn]
    exact ⟨rfl, h_⟩⟩
  have NO := Aside0.mk hnode
  have NX := Aside0.mk hkn
  have SN := Aside0.mk hszn
  clear hnode hkn hszn
  go_upto_region 11 with (first | (go_at_call 17; refine (knot_ (some ⟨g, 0, none⟩) (knL [x] (-1) 0) (nmL [x]) n _ ⟨by rw [nm_len, kn_len], Or.inr ⟨g, rfl, (TT.out.below (by repeat (first | (with_reducible first | exact HT.out | apply below_alloc | apply pw_below_drewN | apply below_drew1) | exact HT.out)))⟩⟩).mono ?_; rintro e w8 ⟨rfl, hb⟩; rw [KV.out.1, KV.out.2]; have n_ := Aside0.mk (below_step (by repeat (first | (with_reducible first | exact HT.out | apply below_alloc | apply pw_below_drewN | apply below_drew1) | exact HT.out)) hb); clear HT; have HT := n_; clear n_; clear hb) | ((with_reducible refine gate_dst (N := 9) rfl ?_); refine box_event ?hg (N := 9) ?hd (cs := #[.int .i64 0, .int .i64 0, .int .i64 0, .int .i64 0, .int .i64 0, .int .i64 0, .int .i64 0]) (t := 39) ?hr ?_; (case hd => rfl); (case hg => rfl); (case hr => first | (go_simp; done) | (go_simp; rfl)); intro g9 hg w9 hbox hb; have B9 := Aside0.mk hbox; have G9 := Aside0.mk ((by rw [hg]; exact (below_size (by repeat (first | (with_reducible first | exact HT.out | apply below_alloc | apply pw_below_drewN | apply below_drew1) | exact HT.out)))) : wR.heap.size ≤ g9); have n_ := Aside0.mk (below_step (by repeat (first | (with_reducible first | exact HT.out | apply below_alloc | apply pw_below_drewN | apply below_drew1) | exact HT.out)) hb); clear HT; have HT := n_; clear n_; clear hb hbox hg; have z0 : w9.cell? ⟨g9, 0, none⟩ = some (.int .i64 0) := (blk_cell B9.out 0).trans rfl; have f0 := blk_frozen B9.out 0; have z1 : w9.cell? ⟨g9, 1, none⟩ = some (.int .i64 0) := (blk_cell B9.out 1).trans rfl; have f1 := blk_frozen B9.out 1; have z2 : w9.cell? ⟨g9, 2, none⟩ = some (.int .i64 0) := (blk_cell B9.out 2).trans rfl; have f2 := blk_frozen B9.out 2; have z3 : w9.cell? ⟨g9, 3, none⟩ = some (.int .i64 0) := (blk_cell B9.out 3).trans rfl; have f3 := blk_frozen B9.out 3; have z4 : w9.cell? ⟨g9, 4, none⟩ = some (.int .i64 0) := (blk_cell B9.out 4).trans rfl; have f4 := blk_frozen B9.out 4; have z5 : w9.cell? ⟨g9, 5, none⟩ = some (.int .i64 0) := (blk_cell B9.out 5).trans rfl; have f5 := blk_frozen B9.out 5; have z6 : w9.cell? ⟨g9, 6, none⟩ = some (.int .i64 0) := (blk_cell B9.out 6).trans rfl; have f6 := blk_frozen B9.out 6))
  have BK := Aside0.mk (blk_put (blk_put (blk_put (blk_put (blk_put (blk_put (blk_put B9.out 0 (.int .i64 en.f0.f0) rfl) 1 (.int .i64 en.f0.f1) rfl) 2 (.int .i64 en.f0.f2) rfl) 3 (.int .i64 en.f0.f3) rfl) 4 (.int .i64 en.f1) rfl) 5 (.int .i64 (fst en.f0.f5 (m + 1))) rfl) 6 (.int .i64 nx) rfl)
  have n_ := Aside0.mk (below_set (below_set (below_set (below_set (below_set (below_set (below_set HT.out G9.out (v := .int .i64 en.f0.f0) (j := 0)) G9.out (v := .int .i64 en.f0.f1) (j := 1)) G9.out (v := .int .i64 en.f0.f2) (j := 2)) G9.out (v := .int .i64 en.f0.f3) (j := 3)) G9.out (v := .int .i64 en.f1) (j := 4)) G9.out (v := .int .i64 (fst en.f0.f5 (m + 1))) (j := 5)) G9.out (v := .int .i64 nx) (j := 6))
  clear HT B9 z0 z1 z2 z3 z4 z5 z6 f0 f1 f2 f3 f4 f5 f6
  have HT := n_
  have BK2 : Aside0 (((((((((w9.setCell ⟨g9, 0, none⟩ (.int .i64 en.f0.f0)).setCell ⟨g9, 1, none⟩ (.int .i64 en.f0.f1)).setCell ⟨g9, 2, none⟩ (.int .i64 en.f0.f2)).setCell ⟨g9, 3, none⟩ (.int .i64 en.f0.f3)).setCell ⟨g9, 4, none⟩ (.int .i64 en.f1)).setCell ⟨g9, 5, none⟩ (.int .i64 (fst en.f0.f5 (m + 1)))).setCell ⟨g9, 6, none⟩ (.int .i64 nx))).heap[g9]? = some (.cells #[.int .i64 en.f0.f0, .int .i64 en.f0.f1, .int .i64 en.f0.f2, .int .i64 en.f0.f3, .int .i64 en.f1, .int .i64 (fst en.f0.f5 (m + 1)), .int .i64 nx] 39 (0, 0))) := ⟨BK.out⟩
  clear n_ BK
  generalize (((((((w9.setCell ⟨g9, 0, none⟩ (.int .i64 en.f0.f0)).setCell ⟨g9, 1, none⟩ (.int .i64 en.f0.f1)).setCell ⟨g9, 2, none⟩ (.int .i64 en.f0.f2)).setCell ⟨g9, 3, none⟩ (.int .i64 en.f0.f3)).setCell ⟨g9, 4, none⟩ (.int .i64 en.f1)).setCell ⟨g9, 5, none⟩ (.int .i64 (fst en.f0.f5 (m + 1)))).setCell ⟨g9, 6, none⟩ (.int .i64 nx)) = wK at BK2 HT ⊢
  obtain ⟨kl, ekl⟩ : ∃ kl, kpL en.f0.f5 (m + 1) = kl := ⟨_, rfl⟩
  obtain ⟨kk, hkk⟩ := (kids_ev (rl := (rwL [x] (-1) 1 0)) m (by have := LR.out; have := FF.out.1; omega)).rounds
  rw [kids_at x NO.out.hr, ekl, ← EM.out] at hkk
  have KC := Aside0.mk hkk
  have EKL := Aside0.mk ekl
  clear hkk ekl
  go_upto_if 101 with (first | (go_at_call 24; refine (orielref06_Kids.calls kk (some ad) c (rwL [x] (-1) 1 0) n kl _ (Kd.C_below HC.out (by repeat (first | (with_reducible first | exact HT.out | apply below_alloc | apply pw_below_drewN | apply below_drew1) | exact HT.out))) LC.out KC.out).mono ?_; rintro e wL ⟨v11, rfl, hr, hb⟩; have H11 := Aside0.mk (Kd.R_lower hr HT.out.size); have n_ := Aside0.mk (blk_below BK2.out hb); clear BK2; have BK2 := n_; clear n_; have n_ := Aside0.mk (below_step (by repeat (first | (with_reducible first | exact HT.out | apply below_alloc | apply pw_below_drewN | apply below_drew1) | exact HT.out)) hb); clear HT; have HT := n_; clear n_; clear hr hb; obtain ⟨A11, c11, e11⟩ := Kd.R_slice H11.out; subst e11))
  have KHD : Aside0 (fst en.f0.f5 (m + 1) = kl.headD (-1)) := ⟨by rw [← EKL.out]; generalize en.f0.f5 = l_; cases l_ <;> rfl⟩
  go_cut [12] (fun v12 wc => v12 = .int .i64 (fst en.f0.f5 (m + 1)) ∧ Aside0 (Kd.R (Kd.int .i64) 3 wc wR.heap.size (fun _ => True) (.slice A11 kl.length c11) kl) ∧ Aside0 (wc.heap[g9]? = some (.cells #[.int .i64 en.f0.f0, .int .i64 en.f0.f1, .int .i64 en.f0.f2, .int .i64 en.f0.f3, .int .i64 en.f1, .int .i64 (fst en.f0.f5 (m + 1)), .int .i64 nx] 39 (0, 0))) ∧ Aside0 (Below wR.heap.size wR wc))
  case first =>
    as_aux_lemma =>
    by_cases c0 : 0 < kl.length
    · have p1 : (0 : Int) ≤ 0 := Int.le_refl _
      obtain ⟨ax, eax, xk⟩ := Kd.at_int (Kd.R_reads' H11.out).2.2 0 p1 (by omega)
      subst eax
      have hrd : rd kl 0 = fst en.f0.f5 (m + 1) := by
        rw [KHD.out]
        cases kl with
        | nil => exact absurd c0 (by decide)
        | cons q_ r_ => rfl
      have pp : ((0 : Int) < (kl.length : Int)) = True := eq_true (by omega)
      have pq : decide ((kl.length : Int) > 0) = true := decide_eq_true (by omega)
      have pa : decide (0 < kl.length) = true := decide_eq_true c0
      have pb : (0 < kl.length) = True := eq_true c0
      have xk2 : wL.cell? ax = some (.int .i64 (fst en.f0.f5 (m + 1))) := by rw [← hrd]; exact xk
      replace xk : wL.cell? (ax.add 0) = some (.int .i64 (fst en.f0.f5 (m + 1))) := by rw [← hrd]; exact xk
      clear hrd pa pb
      go_wp2
      go_meet
      case rel => exact ⟨rfl, H11, BK2, HT⟩
    · have pq : decide ((kl.length : Int) > 0) = false := decide_eq_false (by omega)
      have pa : decide (0 < kl.length) = false := decide_eq_false c0
      have e0 : fst en.f0.f5 (m + 1) = -1 := by
        rw [KHD.out]
        cases kl with
        | nil => rfl
        | cons q_ r_ => exact absurd (by rw [List.length_cons]; omega) c0
      have E0 := Aside0.mk e0
      clear e0
      go_wp2
      go_meet
      case rel => exact ⟨by rw [E0.out], H11, BK2, HT⟩
  case rest =>
    clear H11 BK2 HT
    obtain ⟨rfl, H11, BK2, HT⟩ := hcut
    obtain ⟨wm, rfl⟩ : ∃ wm : World, wm = wc := ⟨_, rfl⟩
    have L11 := Aside0.mk (Kd.R_reads' H11.out).2.1
    have C11 := Aside0.mk (Kd.R_reads' H11.out).2.2
    clear H11
    have n_ := Aside0.mk (TT.out.below HT.out); clear TT; have TT := n_; clear n_; have n_ := Aside0.mk (Kd.C_below HC.out HT.out); clear HC; have HC := n_; clear n_; have n_ := Aside0.mk (below_step HM.out HT.out); clear HM; have HM := n_; clear n_; clear HT; have HT := Aside0.mk (Below.refl wm.heap.size wm)
    have UP := Aside0.mk (up_next x NO.out.hr NX.out)
    obtain ⟨ad2, _, _, _, _, eA2, _, _, _, _, _, _, y6, _, _, _, _, _⟩ := at_T46 HC.out n CN.out.1 CN.out.2
    cases eA2
    rw [ER.out] at y6
    have qn1 : (0 ≤ n) = True := eq_true CN.out.1
    have qn2 : (n < ((rwL [x] (-1) 1 0).length : Int)) = True := eq_true CN.out.2
    go_upto_if 110 with (first | fail)
    go_cut [13] (fun v13 wd => v13 = .int .i64 nx ∧ Aside0 (Below wm.heap.size wm wd))
    case first =>
      as_aux_lemma =>
      rcases UP.out with ⟨u1, u2⟩ | ⟨u, eu, hu, hul, hru, hnx, hln⟩
      · have pt : decide (en.f1 ≥ 0) = false := decide_eq_false (by omega)
        have pu : ¬ (0 ≤ en.f1) := by omega
        have NXE := Aside0.mk u2
        clear u1 u2
        go_wp2
        go_meet
        case rel => exact ⟨by rw [NXE.out], HT⟩
      · have pt : decide (en.f1 ≥ 0) = true := decide_eq_true (by omega)
        have pu : 0 ≤ en.f1 := by omega
        obtain ⟨ul, eul⟩ : ∃ ul, kpL eu.f0.f5 (u + 1) = ul := ⟨_, rfl⟩
        obtain ⟨kk2, hkk2⟩ := (kids_ev (rl := (rwL [x] (-1) 1 0)) u (by have := LR.out; have := FF.out.1; omega)).rounds
        rw [kids_at x hru, eul, ← hu] at hkk2
        rw [eul, ← EM.out] at hnx
        rw [eul] at hln
        have KC2 := Aside0.mk hkk2
        have NXT := Aside0.mk hnx
        have UL : Aside0 (ul.length ≤ 1000000) := ⟨by have := FF.out.1; omega⟩
        clear hu hul hru hnx hln eul hkk2
        go_wp2_with (first | (go_at_call 24; refine (orielref06_Kids.calls kk2 (some ad) c (rwL [x] (-1) 1 0) en.f1 ul _ (Kd.C_below HC.out (by repeat (first | (with_reducible first | exact HT.out | apply below_alloc | apply pw_below_drewN | apply below_drew1) | exact HT.out))) LC.out KC2.out).mono ?_; rintro e wL2 ⟨v17_, rfl, hr, hb⟩; obtain ⟨A17, c17, e17⟩ := Kd.R_slice hr; subst e17; have C17 := Aside0.mk (Kd.R_reads' hr).2.2; have n_ := Aside0.mk (below_step (by repeat (first | (with_reducible first | exact HT.out | apply below_alloc | apply pw_below_drewN | apply below_drew1) | exact HT.out)) hb); clear HT; have HT := n_; clear n_; clear hr hb))
        go_loopg [13, 119] (ul.length + 1) (fun kq v13 v119 w' => ∃ (j : Nat) (b v : Int), v13 = .int .i64 v ∧ v119 = .int .i64 b ∧ Aside0 (b = (j : Int)) ∧ Aside0 (kq + j = ul.length + 1 ∧ j ≤ ul.length) ∧ Aside0 (nxt n (ul.drop j) v = nx) ∧ Aside0 (Kd.C (Kd.int .i64) w' A17 ul.length ul) ∧ Aside0 (Below wm.heap.size wm w'))
        case atStart => exact ⟨0, 0, -1, rfl, rfl, ⟨rfl⟩, ⟨⟨by omega, by omega⟩⟩, ⟨by rw [List.drop_zero]; exact NXT.out⟩, C17, HT⟩
        case round =>
          clear C17 HT
          obtain ⟨j, b, v, rfl, rfl, HE, HK, HN, C17, HT⟩ := hrel
          cases gk with
          | zero => have := HK.out; omega
          | succ k1 =>
            by_cases cc : b < (ul.length : Int)
            · have c0b : decide (b < (ul.length : Int)) = true := decide_eq_true cc
              have hj : j < ul.length := by have := HE.out; omega
              have p1 : (0 : Int) ≤ b := by have := HE.out; omega
              have q1 : b < (ul.length : Int) := cc
              obtain ⟨ax, eax, xk⟩ := Kd.at_int C17.out b p1 q1
              subst eax
              obtain ⟨kk3, hkk⟩ : ∃ kk, ul[j]? = some kk := ⟨ul[j], List.getElem?_eq_getElem hj⟩
              have hrd : rd ul b = kk3 := by unfold rd; rw [HE.out, Int.toNat_natCast, List.getD_eq_getElem?_getD, hkk]; rfl
              rw [hrd] at xk
              have HN2 : Aside0 (nxt n (ul.drop (j + 1)) (if kk3 > n ∧ v < 0 then kk3 else v) = nx) := ⟨(nxt_drop hkk).symm.trans HN.out⟩
              have ew : wrap64 (b + 1) = b + 1 := wid (by have := HE.out; omega) (by have := HE.out; have := UL.out; omega)
              replace p1 := eq_true p1
              replace q1 := eq_true q1
              clear hrd hkk cc
              by_cases c1 : kk3 > n
              · have t1 : decide (kk3 > n) = true := decide_eq_true c1
                by_cases c2 : v < 0
                · have t2 : decide (v < 0) = true := decide_eq_true c2
                  have HN3 : Aside0 (nxt n (ul.drop (j + 1)) kk3 = nx) := ⟨by have h_ := HN2.out; rw [if_pos ⟨c1, c2⟩] at h_; exact h_⟩
                  go_wp2
                  go_roundg k1
                  case measure => omega
                  case rel => exact ⟨j + 1, b + 1, kk3, rfl, by first | rfl | rw [ew], ⟨by rw [HE.out]; rfl⟩, ⟨by have := HK.out; omega⟩, HN3, C17, HT⟩
                · have t2 : decide (v < 0) = false := decide_eq_false c2
                  have HN3 : Aside0 (nxt n (ul.drop (j + 1)) v = nx) := ⟨by have h_ := HN2.out; rw [if_neg (fun h => c2 h.2)] at h_; exact h_⟩
                  go_wp2
                  go_roundg k1
                  case measure => omega
                  case rel => exact ⟨j + 1, b + 1, v, rfl, by first | rfl | rw [ew], ⟨by rw [HE.out]; rfl⟩, ⟨by have := HK.out; omega⟩, HN3, C17, HT⟩
              · have t1 : decide (kk3 > n) = false := decide_eq_false c1
                have HN3 : Aside0 (nxt n (ul.drop (j + 1)) v = nx) := ⟨by have h_ := HN2.out; rw [if_neg (fun h => c1 h.1)] at h_; exact h_⟩
                go_wp2
                go_roundg k1
                case measure => omega
                case rel => exact ⟨j + 1, b + 1, v, rfl, by first | rfl | rw [ew], ⟨by rw [HE.out]; rfl⟩, ⟨by have := HK.out; omega⟩, HN3, C17, HT⟩
            · have c0b : decide (b < (ul.length : Int)) = false := decide_eq_false cc
              have EV : Aside0 (v = nx) := ⟨by have h_ := HN.out; rw [List.drop_eq_nil_of_le (by have := HE.out; omega)] at h_; exact h_⟩
              clear cc
              go_wp2
              go_meet
              case rel => exact ⟨by rw [EV.out], HT⟩
    case rest =>
      clear HT y6
      obtain ⟨rfl, HT⟩ := hcut
      obtain ⟨wd, rfl⟩ : ∃ wd : World, wd = wc := ⟨_, rfl⟩
      have n_ := Aside0.mk (TT.out.below HT.out); clear TT; have TT := n_; clear n_; have n_ := Aside0.mk (Kd.C_below HC.out HT.out); clear HC; have HC := n_; clear n_; have n_ := Aside0.mk (blk_below BK2.out HT.out); clear BK2; have BK2 := n_; clear n_; have n_ := Aside0.mk (Kd.C_below C11.out HT.out); clear C11; have C11 := n_; clear n_; have n_ := Aside0.mk (below_step HM.out HT.out); clear HM; have HM := n_; clear n_; clear HT; have HT := Aside0.mk (Below.refl wd.heap.size wd)
      obtain ⟨s_, es_⟩ : ∃ s_, szL [en.f0] = s_ := ⟨_, rfl⟩
      have ES := Aside0.mk es_
      have SB : Aside0 (m + s_ ≤ szL [x]) := ⟨by have := SN.out; have := ES.out; omega⟩
      clear es_
      go_wp2
      go_loopg [16, 134] ((rwL [x] (-1) 1 0).length + 1) (fun kq v16 v134 w' => ∃ (j : Nat) (b : Int), v134 = .int .i64 b ∧ Aside0 (b = (j : Int)) ∧ Aside0 (kq + j = (rwL [x] (-1) 1 0).length + 1 ∧ j ≤ (rwL [x] (-1) 1 0).length) ∧ Aside0 (Kd.R (Kd.int .i64) 3 w' wd.heap.size (fun _ => True) v16 (bl m s_ j)) ∧ Aside0 (Below wd.heap.size wd w'))
      case atStart => exact ⟨0, 0, rfl, ⟨rfl⟩, ⟨⟨by omega, by omega⟩⟩, ⟨by rw [bl_zero]; exact Kd.R_nil _ _ _ _ _⟩, HT⟩
      case round =>
        clear HT
        obtain ⟨j, b, rfl, HE, HK, HR, HT⟩ := hrel
        cases gk with
        | zero => have := HK.out; omega
        | succ k1 =>
          by_cases cc : b < ((rwL [x] (-1) 1 0).length : Int)
          · as_aux_lemma =>
            have c0b : decide (b < ((rwL [x] (-1) 1 0).length : Int)) = true := decide_eq_true cc
            have hj : j < (rwL [x] (-1) 1 0).length := by have := HE.out; omega
            obtain ⟨kb, hkb⟩ := (below_ev x (by have := FF.out.1; omega) NO.out (k := j) (by have := LR.out; omega)).rounds
            rw [ES.out, ← HE.out, ← EM.out] at hkb
            have ew : wrap64 (b + 1) = b + 1 := wid (by have := HE.out; omega) (by have := HE.out; have := LR.out; have := FF.out.1; omega)
            have LD : Aside0 ((bl m s_ j).length ≤ 1000000) := ⟨by have := bl_len m s_ j; have := SB.out; have := FF.out.1; omega⟩
            clear cc
            by_cases cb : m ≤ j ∧ j < m + s_
            · have BV : Aside0 (orielref06_Below.f kb (rwL [x] (-1) 1 0) b n = some true) := ⟨hkb.trans (by rw [decide_eq_true cb])⟩
              have BE : Aside0 (bl m s_ (j + 1) = bl m s_ j ++ [b]) := ⟨by rw [HE.out]; exact bl_in cb⟩
              clear hkb cb
              go_wp2_with (first | (go_at_call 25; refine (orielref06_Below.calls kb (some ad) c (rwL [x] (-1) 1 0) b n true _ (Kd.C_below HC.out (by repeat (first | (with_reducible first | exact HT.out | apply below_alloc | apply pw_below_drewN | apply below_drew1) | exact HT.out))) LC.out BV.out).mono ?_; rintro e w8 ⟨rfl, hd⟩; have hb := hd.below; have n_ := Aside0.mk (Kd.R_below HR.out hb); clear HR; have HR := n_; clear n_; have n_ := Aside0.mk (below_step (by repeat (first | (with_reducible first | exact HT.out | apply below_alloc | apply pw_below_drewN | apply below_drew1) | exact HT.out)) hb); clear HT; have HT := n_; clear n_; clear hb hd) | ((with_reducible refine gate_builtin (b := .append) (xs := #[.tmp 141, .tmp 143]) rfl ?_); at_builtin; refine Kd.R_append (Kd.int .i64) (w0 := wd) wd.heap.size rfl (.tmp 141) (.tmp 143) 22 3 (.int .i64 0) 8 rfl Try.underlying22 info3 rfl (by decide) (by omega) u16 (bl m s_ j) b [.int .i64 b] (fun _ => True) (fun _ => False) rfl (by first | (go_simp; done) | (go_simp; rfl)) ?aP (fun _ hk => hk.elim) ?aF ?aO ?aB ?aS ?aL ?_; (case aP => exact rfl); (case aF => exact (fun _ _ => trivial)); (case aO => exact (by (with_reducible repeat (first | apply Kd.R_alloc | apply Kd.R_drewN | apply Kd.R_drew)); exact HR.out)); (case aB => exact (by repeat (first | (with_reducible first | exact HT.out | apply below_alloc | apply pw_below_drewN | apply below_drew1) | exact HT.out))); (case aS => exact (below_size (by repeat (first | (with_reducible first | exact HT.out | apply below_alloc | apply pw_below_drewN | apply below_drew1) | exact HT.out)))); (case aL => have := LD.out; omega); intro v6 w6 ho6 hb6 hg6 hat6; have HO6 := Aside0.mk ho6; have HM6 := Aside0.mk hb6; clear ho6 hb6 hg6 hat6))
              go_roundg k1
              case measure => omega
              case rel => exact ⟨j + 1, b + 1, by first | rfl | rw [ew], ⟨by rw [HE.out]; rfl⟩, ⟨by have := HK.out; omega⟩, ⟨by rw [BE.out]; exact HO6.out⟩, HM6⟩
            · have BV : Aside0 (orielref06_Below.f kb (rwL [x] (-1) 1 0) b n = some false) := ⟨hkb.trans (by rw [decide_eq_false cb])⟩
              have BE : Aside0 (bl m s_ (j + 1) = bl m s_ j) := ⟨bl_out cb⟩
              clear hkb cb
              go_wp2_with (first | (go_at_call 25; refine (orielref06_Below.calls kb (some ad) c (rwL [x] (-1) 1 0) b n false _ (Kd.C_below HC.out (by repeat (first | (with_reducible first | exact HT.out | apply below_alloc | apply pw_below_drewN | apply below_drew1) | exact HT.out))) LC.out BV.out).mono ?_; rintro e w8 ⟨rfl, hd⟩; have hb := hd.below; have n_ := Aside0.mk (Kd.R_below HR.out hb); clear HR; have HR := n_; clear n_; have n_ := Aside0.mk (below_step (by repeat (first | (with_reducible first | exact HT.out | apply below_alloc | apply pw_below_drewN | apply below_drew1) | exact HT.out)) hb); clear HT; have HT := n_; clear n_; clear hb hd))
              go_roundg k1
              case measure => omega
              case rel => exact ⟨j + 1, b + 1, by first | rfl | rw [ew], ⟨by rw [HE.out]; rfl⟩, ⟨by have := HK.out; omega⟩, ⟨by rw [BE.out]; exact HR.out⟩, HT⟩
          · have c0b : decide (b < ((rwL [x] (-1) 1 0).length : Int)) = false := decide_eq_false cc
            have HR2 : Aside0 (Kd.R (Kd.int .i64) 3 wr wd.heap.size (fun _ => True) u16 (rng m s_)) := ⟨by have h_ := HR.out; rw [bl_end (by have := HE.out; have := SB.out; have := LR.out; omega)] at h_; exact h_⟩
            obtain ⟨A16, c16, e16⟩ := Kd.R_slice HR2.out
            subst e16
            have L16 := Aside0.mk (Kd.R_reads' HR2.out).2.1
            have C16 := Aside0.mk (Kd.R_reads' HR2.out).2.2
            clear HR HR2 cc
            obtain ⟨we, rfl⟩ : ∃ we : World, we = wr := ⟨_, rfl⟩
            have n_ := Aside0.mk (TT.out.below HT.out); clear TT; have TT := n_; clear n_; have n_ := Aside0.mk (Kd.C_below HC.out HT.out); clear HC; have HC := n_; clear n_; have n_ := Aside0.mk (blk_below BK2.out HT.out); clear BK2; have BK2 := n_; clear n_; have n_ := Aside0.mk (Kd.C_below C11.out HT.out); clear C11; have C11 := n_; clear n_; have n_ := Aside0.mk (below_step HM.out HT.out); clear HM; have HM := n_; clear n_; clear HT; have HT := Aside0.mk (Below.refl we.heap.size we)
            obtain ⟨pl, pr1, pk1, plen, ple⟩ := path_ex x _ m en (Nat.lt_succ_self _) NO.out.hr
            rw [← EM.out] at pr1 pk1
            have PR := Aside0.mk pr1
            have PK := Aside0.mk pk1
            have PE := Aside0.mk plen
            have PL : Aside0 (pl.length ≤ 1000000) := ⟨by have := SB.out; have := FF.out.1; omega⟩
            clear pr1 pk1 plen ple
            go_wp2
            go_loopg [17, 19] (pl.length + 1) (fun kq v17 v19 w' => ∃ (dn rs : List Int) (nn : Int), v19 = .int .i64 nn ∧ Aside0 (kq = rs.length + 1 ∧ dn ++ rs = pl) ∧ Aside0 (PathR (rwL [x] (-1) 1 0) nn rs) ∧ Aside0 (Kd.R (Kd.int .i64) 3 w' we.heap.size (fun _ => True) v17 dn) ∧ Aside0 (Below we.heap.size we w'))
            case atStart => exact ⟨[], pl, n, rfl, ⟨⟨rfl, rfl⟩⟩, PR, ⟨Kd.R_nil _ _ _ _ _⟩, HT⟩
            case round =>
              clear HT
              obtain ⟨dn, rs, nn, rfl, HKP, CH, HR, HT⟩ := hrel
              cases gk with
              | zero => have := HKP.out; omega
              | succ k2 =>
                rcases CH.out.inv with ⟨h1, h2⟩ | ⟨k3, e2, r2, h1, h2, h3, h4⟩
                rotate_left
                · as_aux_lemma =>
                  have p1 : (0 : Int) ≤ nn := by omega
                  have q1 : nn < ((rwL [x] (-1) 1 0).length : Int) := by have := (List.getElem?_eq_some_iff.mp h2).1; omega
                  obtain ⟨ad2, _, _, _, _, eA2, _, _, _, _, _, _, y6, _, _, _, _, _⟩ := at_T46 HC.out nn p1 q1
                  cases eA2
                  rw [h1, rd46 h2, ← h1] at y6
                  have Y6 := Aside0.mk y6
                  have CR := Aside0.mk h4
                  have E3 := Aside0.mk h3
                  have t1 : decide (nn ≥ 0) = true := decide_eq_true p1
                  have t2 : 0 ≤ nn := p1
                  have LD : Aside0 (dn.length ≤ 1000000) := ⟨by have h_ := HKP.out.2; have h2_ := congrArg List.length h_; rw [List.length_append] at h2_; have := PL.out; omega⟩
                  replace p1 := eq_true p1
                  replace q1 := eq_true q1
                  clear h1 h2 h3 h4 y6 CH
                  obtain ⟨uf, euf⟩ : ∃ uf, e2.f1 = uf := ⟨_, rfl⟩
                  rw [euf] at Y6 CR
                  clear euf
                  go_wp2_with (first | ((with_reducible refine gate_builtin (b := .append) (xs := #[.tmp 154, .tmp 156]) rfl ?_); at_builtin; refine Kd.R_append (Kd.int .i64) (w0 := we) we.heap.size rfl (.tmp 154) (.tmp 156) 22 3 (.int .i64 0) 8 rfl Try.underlying22 info3 rfl (by decide) (by omega) u17 dn nn [.int .i64 nn] (fun _ => True) (fun _ => False) rfl (by first | (go_simp; done) | (go_simp; rfl)) ?aP (fun _ hk => hk.elim) ?aF ?aO ?aB ?aS ?aL ?_; (case aP => exact rfl); (case aF => exact (fun _ _ => trivial)); (case aO => exact (by (with_reducible repeat (first | apply Kd.R_alloc | apply Kd.R_drewN | apply Kd.R_drew)); exact HR.out)); (case aB => exact (by repeat (first | (with_reducible first | exact HT.out | apply below_alloc | apply pw_below_drewN | apply below_drew1) | exact HT.out))); (case aS => exact (below_size (by repeat (first | (with_reducible first | exact HT.out | apply below_alloc | apply pw_below_drewN | apply below_drew1) | exact HT.out)))); (case aL => have := LD.out; omega); intro v6 w6 ho6 hb6 hg6 hat6; have HO6 := Aside0.mk ho6; have HM6 := Aside0.mk hb6; clear ho6 hb6 hg6 hat6; have y6 := (HM6.out.cell (World.block_lt_of_cell? we _ Y6.out)).trans Y6.out))
                  go_roundg k2
                  case measure => omega
                  case rel => exact ⟨dn ++ [nn], r2, uf, rfl, ⟨⟨by have h_ := HKP.out.1; rw [E3.out, List.length_cons] at h_; omega, by have h_ := HKP.out.2; rw [E3.out] at h_; rw [List.append_assoc]; exact h_⟩⟩, CR, HO6, HM6⟩
                · have t1 : decide (nn ≥ 0) = false := decide_eq_false (by omega)
                  have t2 : ¬ 0 ≤ nn := by omega
                  have HR2 : Aside0 (Kd.R (Kd.int .i64) 3 wr we.heap.size (fun _ => True) u17 pl) := ⟨by have h_ := HKP.out.2; rw [h2, List.append_nil] at h_; exact h_ ▸ HR.out⟩
                  obtain ⟨A17, c17, e17⟩ := Kd.R_slice HR2.out
                  subst e17
                  have L17 := Aside0.mk (Kd.R_reads' HR2.out).2.1
                  have C17 := Aside0.mk (Kd.R_reads' HR2.out).2.2
                  clear HR HR2 h1 h2 CH
                  obtain ⟨wf, rfl⟩ : ∃ wf : World, wf = wr := ⟨_, rfl⟩
                  have n_ := Aside0.mk (TT.out.below HT.out); clear TT; have TT := n_; clear n_; have n_ := Aside0.mk (Kd.C_below HC.out HT.out); clear HC; have HC := n_; clear n_; have n_ := Aside0.mk (blk_below BK2.out HT.out); clear BK2; have BK2 := n_; clear n_; have n_ := Aside0.mk (Kd.C_below C11.out HT.out); clear C11; have C11 := n_; clear n_; have n_ := Aside0.mk (Kd.C_below C16.out HT.out); clear C16; have C16 := n_; clear n_; have n_ := Aside0.mk (below_step HM.out HT.out); clear HM; have HM := n_; clear n_; clear HT; have HT := Aside0.mk (Below.refl wf.heap.size wf)
                  obtain ⟨ad2, A44, c44, A55, c55, eA2, y0, y1, y2, y3, y4, y5, y6, y7, lr4, hr4, _, _⟩ := at_T46 HC.out n CN.out.1 CN.out.2
                  cases eA2
                  rw [ER.out] at y0 y1 y2 y3 y4 y6 y7 lr4 hr4
                  have L44 := Aside0.mk lr4
                  have C44 := Aside0.mk hr4
                  have SH : Aside0 (∀ w' : World, Below wf.heap.size wf w' → HeldM w' g9 (ad.add (n.toNat * 8)) en.f0.f0 en.f0.f1 en.f0.f2 en.f0.f3 en.f1 (fst en.f0.f5 (m + 1)) nx (.slice A44 en.f0.f4.length c44) en.f2) := ⟨fun w' hb => ⟨(blk_cell (blk_below BK2.out hb) 0).trans rfl, (blk_cell (blk_below BK2.out hb) 1).trans rfl, (blk_cell (blk_below BK2.out hb) 2).trans rfl, (blk_cell (blk_below BK2.out hb) 3).trans rfl, (blk_cell (blk_below BK2.out hb) 4).trans rfl, (blk_cell (blk_below BK2.out hb) 5).trans rfl, (blk_cell (blk_below BK2.out hb) 6).trans rfl, (hb.cell (World.block_lt_of_cell? wf _ y0)).trans y0, (hb.cell (World.block_lt_of_cell? wf _ y1)).trans y1, (hb.cell (World.block_lt_of_cell? wf _ y2)).trans y2, (hb.cell (World.block_lt_of_cell? wf _ y3)).trans y3, (hb.cell (World.block_lt_of_cell? wf _ y4)).trans y4, (hb.cell (World.block_lt_of_cell? wf _ y6)).trans y6, (hb.cell (World.block_lt_of_cell? wf _ y7)).trans y7⟩⟩
                  clear y0 y1 y2 y3 y4 y5 y6 y7 lr4 hr4
                  have NM : Aside0 (namesF (knL [x] (-1) 0) (nmL [x]) n = en.f0.f4) := ⟨by rw [EM.out]; exact names_at x NO.out.hr NX.out⟩
                  have N5 : Aside0 (en.f0.f4.length ≤ 500) := ⟨rw_names x FF.out.2.1 NO.out.hr⟩
                  have CK : Aside0 (ChainK (knL [x] (-1) 0) (rd_T39 (knL [x] (-1) 0) n).f5 kl) := ⟨by rw [EM.out, rd39 NX.out, ← EKL.out]; exact chain_ _ _ _ _ NO.out.hs⟩
                  have KL : Aside0 (kl.length ≤ 1000000) := ⟨by rw [← EKL.out, kpL_len]; have h1_ := len_le_szL en.f0.f5; have h4_ := szL_one en.f0; have h5_ := SN.out; have h6_ := FF.out.1; omega⟩
                  have WK : Aside0 (WalkK (knL [x] (-1) 0) [n] (rng m s_)) := ⟨by rw [EM.out, ← ES.out]; exact walk_at NO.out (by have h5_ := SN.out; have h6_ := FF.out.1; omega)⟩
                  have WL : Aside0 ((rng m s_).length ≤ 1000000) := ⟨by rw [rng_len]; have := SB.out; have h6_ := FF.out.1; omega⟩
                  have HH : Aside0 (hasB (knL [x] (-1) 0) n = true) := ⟨KV.out.2⟩
                  go_upto_region 33 with (first | fail)
                  refine start_ (n := 115) (S := fun w' => HeldM w' g9 (ad.add (n.toNat * 8)) en.f0.f0 en.f0.f1 en.f0.f2 en.f0.f3 en.f1 (fst en.f0.f5 (m + 1)) nx (.slice A44 en.f0.f4.length c44) en.f2) (ds := []) #[false, false, false, false, false, false, false, false, false, false, false, false, false, false, false, false, false, false, false, false, false, false, false, false, false, false, false, false, false, false, false, false, false, false, false, false, false, false, false, false, false, false, false, false, false, false, false, false, false, false, false, false, false, false, false, false, false, false, false, false, false, false, false, false, false, false, false, false, false, false, false, false, false, false, false, false, false, false, false, false, false, false, false, false, false, false, false, false, false, false, false, false, false, false, false, false, false, false, false, false, false, false, false, false, false, false, false, false, false, false, false, false, false, false, false] (by kernel_rfl) rfl rfl (SH.out _ (below_drew1 HT.out)) (fun hHeld => ?_)
                  have n_ := Aside0.mk (below_drew1 HT.out)
                  clear HT
                  have HT := n_
                  clear n_
                  refine with_tabW R33.tab R33.bits (fun HT_ HW_ => ?_)
                  generalize wf.drew = w20 at HT hHeld ⊢
                  refine pure_ (i := 0) (N := some 158) (v := ?_) (a' := ?_) #[true, false, false, false, false, false, false, false, false, false, false, false, false, false, false, false, false, false, false, false, false, false, false, false, false, false, false, false, false, false, false, false, false, false, false, false, false, false, false, false, false, false, false, false, false, false, false, false, false, false, false, false, false, false, false, false, false, false, false, false, false, false, false, false, false, false, false, false, false, false, false, false, false, false, false, false, false, false, false, false, false, false, false, false, false, false, false, false, false, false, false, false, false, false, false, false, false, false, false, false, false, false, false, false, false, false, false, false, false, false, false, false, false, false, false] rfl rfl (any_of HT_.out (by kernel_rfl)) (fun _ _ _ h => h) (Or.inl ⟨by rfl, ?_⟩) ?_ ?_
                  rotate_left
                  · intro w'
                    go_simp
                    with_reducible rfl
                  rotate_left
                  · simp only [Act.put, List.setIfInBounds_toArray, List.set_cons_zero, List.set_cons_succ, i64_w, i32_w]
                    rfl
                  refine pure_ (i := 1) (N := some 159) (v := ?_) (a' := ?_) #[true, true, false, false, false, false, false, false, false, false, false, false, false, false, false, false, false, false, false, false, false, false, false, false, false, false, false, false, false, false, false, false, false, false, false, false, false, false, false, false, false, false, false, false, false, false, false, false, false, false, false, false, false, false, false, false, false, false, false, false, false, false, false, false, false, false, false, false, false, false, false, false, false, false, false, false, false, false, false, false, false, false, false, false, false, false, false, false, false, false, false, false, false, false, false, false, false, false, false, false, false, false, false, false, false, false, false, false, false, false, false, false, false, false, false] rfl rfl (any_of HT_.out (by kernel_rfl)) (fun _ _ _ h => h) (Or.inl ⟨by rfl, ?_⟩) ?_ ?_
                  rotate_left
                  · intro w'
                    go_simp
                    with_reducible rfl
                  rotate_left
                  · simp only [Act.put, List.setIfInBounds_toArray, List.set_cons_zero, List.set_cons_succ, i64_w, i32_w]
                    rfl
                  refine pure_ (i := 2) (N := some 160) (v := ?_) (a' := ?_) #[true, true, true, false, false, false, false, false, false, false, false, false, false, false, false, false, false, false, false, false, false, false, false, false, false, false, false, false, false, false, false, false, false, false, false, false, false, false, false, false, false, false, false, false, false, false, false, false, false, false, false, false, false, false, false, false, false, false, false, false, false, false, false, false, false, false, false, false, false, false, false, false, false, false, false, false, false, false, false, false, false, false, false, false, false, false, false, false, false, false, false, false, false, false, false, false, false, false, false, false, false, false, false, false, false, false, false, false, false, false, false, false, false, false, false] rfl rfl (any_of HT_.out (by kernel_rfl)) (fun _ _ _ h => h) (Or.inl ⟨by rfl, ?_⟩) ?_ ?_
                  rotate_left
                  · intro w'
                    go_simp
                    with_reducible rfl
                  rotate_left
                  · simp only [Act.put, List.setIfInBounds_toArray, List.set_cons_zero, List.set_cons_succ, i64_w, i32_w]
                    rfl
                  refine take_ (i := 3) (N := some 161) (v := ?_) (a' := ?_) #[true, true, true, true, false, false, false, false, false, false, false, false, false, false, false, false, false, false, false, false, false, false, false, false, false, false, false, false, false, false, false, false, false, false, false, false, false, false, false, false, false, false, false, false, false, false, false, false, false, false, false, false, false, false, false, false, false, false, false, false, false, false, false, false, false, false, false, false, false, false, false, false, false, false, false, false, false, false, false, false, false, false, false, false, false, false, false, false, false, false, false, false, false, false, false, false, false, false, false, false, false, false, false, false, false, false, false, false, false, false, false, false, false, false, false] rfl rfl (take_ofW HT_.out HW_.out (by kernel_rfl)) (fun _ _ _ h => h) (Or.inl ⟨by rfl, ?_⟩) hHeld ?_ ?_
                  rotate_left
                  · rintro w' ⟨s0, s1, s2, s3, s4, s5, s6, s7, s8, s9, s10, s11, s12, s13⟩
                    go_simp
                    with_reducible rfl
                  rotate_left
                  · simp only [Act.put, List.setIfInBounds_toArray, List.set_cons_zero, List.set_cons_succ, i64_w, i32_w]
                    rfl
                  refine pure_ (i := 4) (N := some 162) (v := ?_) (a' := ?_) #[true, true, true, true, true, false, false, false, false, false, false, false, false, false, false, false, false, false, false, false, false, false, false, false, false, false, false, false, false, false, false, false, false, false, false, false, false, false, false, false, false, false, false, false, false, false, false, false, false, false, false, false, false, false, false, false, false, false, false, false, false, false, false, false, false, false, false, false, false, false, false, false, false, false, false, false, false, false, false, false, false, false, false, false, false, false, false, false, false, false, false, false, false, false, false, false, false, false, false, false, false, false, false, false, false, false, false, false, false, false, false, false, false, false, false] rfl rfl (any_of HT_.out (by kernel_rfl)) (fun _ _ _ h => h) (Or.inl ⟨by rfl, ?_⟩) ?_ ?_
                  rotate_left
                  · intro w'
                    go_simp
                    with_reducible rfl
                  rotate_left
                  · simp only [Act.put, List.setIfInBounds_toArray, List.set_cons_zero, List.set_cons_succ, i64_w, i32_w]
                    rfl
                  refine pure_ (i := 5) (N := some 163) (v := ?_) (a' := ?_) #[true, true, true, true, true, true, false, false, false, false, false, false, false, false, false, false, false, false, false, false, false, false, false, false, false, false, false, false, false, false, false, false, false, false, false, false, false, false, false, false, false, false, false, false, false, false, false, false, false, false, false, false, false, false, false, false, false, false, false, false, false, false, false, false, false, false, false, false, false, false, false, false, false, false, false, false, false, false, false, false, false, false, false, false, false, false, false, false, false, false, false, false, false, false, false, false, false, false, false, false, false, false, false, false, false, false, false, false, false, false, false, false, false, false, false] rfl rfl (any_of HT_.out (by kernel_rfl)) (fun _ _ _ h => h) (Or.inl ⟨by rfl, ?_⟩) ?_ ?_
                  rotate_left
                  · intro w'
                    go_simp
                    with_reducible rfl
                  rotate_left
                  · simp only [Act.put, List.setIfInBounds_toArray, List.set_cons_zero, List.set_cons_succ, i64_w, i32_w]
                    rfl
                  refine pure_ (i := 6) (N := some 164) (v := ?_) (a' := ?_) #[true, true, true, true, true, true, true, false, false, false, false, false, false, false, false, false, false, false, false, false, false, false, false, false, false, false, false, false, false, false, false, false, false, false, false, false, false, false, false, false, false, false, false, false, false, false, false, false, false, false, false, false, false, false, false, false, false, false, false, false, false, false, false, false, false, false, false, false, false, false, false, false, false, false, false, false, false, false, false, false, false, false, false, false, false, false, false, false, false, false, false, false, false, false, false, false, false, false, false, false, false, false, false, false, false, false, false, false, false, false, false, false, false, false, false] rfl rfl (any_of HT_.out (by kernel_rfl)) (fun _ _ _ h => h) (Or.inl ⟨by rfl, ?_⟩) ?_ ?_
                  rotate_left
                  · intro w'
                    go_simp
                    with_reducible rfl
                  rotate_left
                  · simp only [Act.put, List.setIfInBounds_toArray, List.set_cons_zero, List.set_cons_succ, i64_w, i32_w]
                    rfl
                  refine pure_ (i := 7) (N := some 165) (v := ?_) (a' := ?_) #[true, true, true, true, true, true, true, true, false, false, false, false, false, false, false, false, false, false, false, false, false, false, false, false, false, false, false, false, false, false, false, false, false, false, false, false, false, false, false, false, false, false, false, false, false, false, false, false, false, false, false, false, false, false, false, false, false, false, false, false, false, false, false, false, false, false, false, false, false, false, false, false, false, false, false, false, false, false, false, false, false, false, false, false, false, false, false, false, false, false, false, false, false, false, false, false, false, false, false, false, false, false, false, false, false, false, false, false, false, false, false, false, false, false, false] rfl rfl (any_of HT_.out (by kernel_rfl)) (fun _ _ _ h => h) (Or.inl ⟨by rfl, ?_⟩) ?_ ?_
                  rotate_left
                  · intro w'
                    go_simp
                    with_reducible rfl
                  rotate_left
                  · simp only [Act.put, List.setIfInBounds_toArray, List.set_cons_zero, List.set_cons_succ, i64_w, i32_w]
                    rfl
                  refine pure_ (i := 8) (N := some 166) (v := ?_) (a' := ?_) #[true, true, true, true, true, true, true, true, true, false, false, false, false, false, false, false, false, false, false, false, false, false, false, false, false, false, false, false, false, false, false, false, false, false, false, false, false, false, false, false, false, false, false, false, false, false, false, false, false, false, false, false, false, false, false, false, false, false, false, false, false, false, false, false, false, false, false, false, false, false, false, false, false, false, false, false, false, false, false, false, false, false, false, false, false, false, false, false, false, false, false, false, false, false, false, false, false, false, false, false, false, false, false, false, false, false, false, false, false, false, false, false, false, false, false] rfl rfl (any_of HT_.out (by kernel_rfl)) (fun _ _ _ h => h) (Or.inl ⟨by rfl, ?_⟩) ?_ ?_
                  rotate_left
                  · intro w'
                    go_simp
                    with_reducible rfl
                  rotate_left
                  · simp only [Act.put, List.setIfInBounds_toArray, List.set_cons_zero, List.set_cons_succ, i64_w, i32_w]
                    rfl
                  refine take_ (i := 9) (N := some 167) (v := ?_) (a' := ?_) #[true, true, true, true, true, true, true, true, true, true, false, false, false, false, false, false, false, false, false, false, false, false, false, false, false, false, false, false, false, false, false, false, false, false, false, false, false, false, false, false, false, false, false, false, false, false, false, false, false, false, false, false, false, false, false, false, false, false, false, false, false, false, false, false, false, false, false, false, false, false, false, false, false, false, false, false, false, false, false, false, false, false, false, false, false, false, false, false, false, false, false, false, false, false, false, false, false, false, false, false, false, false, false, false, false, false, false, false, false, false, false, false, false, false, false] rfl rfl (take_ofW HT_.out HW_.out (by kernel_rfl)) (fun _ _ _ h => h) (Or.inl ⟨by rfl, ?_⟩) hHeld ?_ ?_
                  rotate_left
                  · rintro w' ⟨s0, s1, s2, s3, s4, s5, s6, s7, s8, s9, s10, s11, s12, s13⟩
                    go_simp
                    with_reducible rfl
                  rotate_left
                  · simp only [Act.put, List.setIfInBounds_toArray, List.set_cons_zero, List.set_cons_succ, i64_w, i32_w]
                    rfl
                  refine pure_ (i := 10) (N := some 168) (v := ?_) (a' := ?_) #[true, true, true, true, true, true, true, true, true, true, true, false, false, false, false, false, false, false, false, false, false, false, false, false, false, false, false, false, false, false, false, false, false, false, false, false, false, false, false, false, false, false, false, false, false, false, false, false, false, false, false, false, false, false, false, false, false, false, false, false, false, false, false, false, false, false, false, false, false, false, false, false, false, false, false, false, false, false, false, false, false, false, false, false, false, false, false, false, false, false, false, false, false, false, false, false, false, false, false, false, false, false, false, false, false, false, false, false, false, false, false, false, false, false, false] rfl rfl (any_of HT_.out (by kernel_rfl)) (fun _ _ _ h => h) (Or.inl ⟨by rfl, ?_⟩) ?_ ?_
                  rotate_left
                  · intro w'
                    go_simp
                    with_reducible rfl
                  rotate_left
                  · simp only [Act.put, List.setIfInBounds_toArray, List.set_cons_zero, List.set_cons_succ, i64_w, i32_w]
                    rfl
                  refine pure_ (i := 11) (N := some 169) (v := ?_) (a' := ?_) #[true, true, true, true, true, true, true, true, true, true, true, true, false, false, false, false, false, false, false, false, false, false, false, false, false, false, false, false, false, false, false, false, false, false, false, false, false, false, false, false, false, false, false, false, false, false, false, false, false, false, false, false, false, false, false, false, false, false, false, false, false, false, false, false, false, false, false, false, false, false, false, false, false, false, false, false, false, false, false, false, false, false, false, false, false, false, false, false, false, false, false, false, false, false, false, false, false, false, false, false, false, false, false, false, false, false, false, false, false, false, false, false, false, false, false] rfl rfl (any_of HT_.out (by kernel_rfl)) (fun _ _ _ h => h) (Or.inl ⟨by rfl, ?_⟩) ?_ ?_
                  rotate_left
                  · intro w'
                    go_simp
                    with_reducible rfl
                  rotate_left
                  · simp only [Act.put, List.setIfInBounds_toArray, List.set_cons_zero, List.set_cons_succ, i64_w, i32_w]
                    rfl
                  refine pure_ (i := 12) (N := some 170) (v := ?_) (a' := ?_) #[true, true, true, true, true, true, true, true, true, true, true, true, true, false, false, false, false, false, false, false, false, false, false, false, false, false, false, false, false, false, false, false, false, false, false, false, false, false, false, false, false, false, false, false, false, false, false, false, false, false, false, false, false, false, false, false, false, false, false, false, false, false, false, false, false, false, false, false, false, false, false, false, false, false, false, false, false, false, false, false, false, false, false, false, false, false, false, false, false, false, false, false, false, false, false, false, false, false, false, false, false, false, false, false, false, false, false, false, false, false, false, false, false, false, false] rfl rfl (any_of HT_.out (by kernel_rfl)) (fun _ _ _ h => h) (Or.inl ⟨by rfl, ?_⟩) ?_ ?_
                  rotate_left
                  · intro w'
                    go_simp
                    with_reducible rfl
                  rotate_left
                  · simp only [Act.put, List.setIfInBounds_toArray, List.set_cons_zero, List.set_cons_succ, i64_w, i32_w]
                    rfl
                  refine pure_ (i := 13) (N := some 171) (v := ?_) (a' := ?_) #[true, true, true, true, true, true, true, true, true, true, true, true, true, true, false, false, false, false, false, false, false, false, false, false, false, false, false, false, false, false, false, false, false, false, false, false, false, false, false, false, false, false, false, false, false, false, false, false, false, false, false, false, false, false, false, false, false, false, false, false, false, false, false, false, false, false, false, false, false, false, false, false, false, false, false, false, false, false, false, false, false, false, false, false, false, false, false, false, false, false, false, false, false, false, false, false, false, false, false, false, false, false, false, false, false, false, false, false, false, false, false, false, false, false, false] rfl rfl (any_of HT_.out (by kernel_rfl)) (fun _ _ _ h => h) (Or.inl ⟨by rfl, ?_⟩) ?_ ?_
                  rotate_left
                  · intro w'
                    go_simp
                    with_reducible rfl
                  rotate_left
                  · simp only [Act.put, List.setIfInBounds_toArray, List.set_cons_zero, List.set_cons_succ, i64_w, i32_w]
                    rfl
                  refine take_ (i := 14) (N := some 172) (v := ?_) (a' := ?_) #[true, true, true, true, true, true, true, true, true, true, true, true, true, true, true, false, false, false, false, false, false, false, false, false, false, false, false, false, false, false, false, false, false, false, false, false, false, false, false, false, false, false, false, false, false, false, false, false, false, false, false, false, false, false, false, false, false, false, false, false, false, false, false, false, false, false, false, false, false, false, false, false, false, false, false, false, false, false, false, false, false, false, false, false, false, false, false, false, false, false, false, false, false, false, false, false, false, false, false, false, false, false, false, false, false, false, false, false, false, false, false, false, false, false, false] rfl rfl (take_ofW HT_.out HW_.out (by kernel_rfl)) (fun _ _ _ h => h) (Or.inl ⟨by rfl, ?_⟩) hHeld ?_ ?_
                  rotate_left
                  · rintro w' ⟨s0, s1, s2, s3, s4, s5, s6, s7, s8, s9, s10, s11, s12, s13⟩
                    go_simp
                    with_reducible rfl
                  rotate_left
                  · simp only [Act.put, List.setIfInBounds_toArray, List.set_cons_zero, List.set_cons_succ, i64_w, i32_w]
                    rfl
                  refine pure_ (i := 15) (N := some 173) (v := ?_) (a' := ?_) #[true, true, true, true, true, true, true, true, true, true, true, true, true, true, true, true, false, false, false, false, false, false, false, false, false, false, false, false, false, false, false, false, false, false, false, false, false, false, false, false, false, false, false, false, false, false, false, false, false, false, false, false, false, false, false, false, false, false, false, false, false, false, false, false, false, false, false, false, false, false, false, false, false, false, false, false, false, false, false, false, false, false, false, false, false, false, false, false, false, false, false, false, false, false, false, false, false, false, false, false, false, false, false, false, false, false, false, false, false, false, false, false, false, false, false] rfl rfl (any_of HT_.out (by kernel_rfl)) (fun _ _ _ h => h) (Or.inl ⟨by rfl, ?_⟩) ?_ ?_
                  rotate_left
                  · intro w'
                    go_simp
                    with_reducible rfl
                  rotate_left
                  · simp only [Act.put, List.setIfInBounds_toArray, List.set_cons_zero, List.set_cons_succ, i64_w, i32_w]
                    rfl
                  refine pure_ (i := 16) (N := some 174) (v := ?_) (a' := ?_) #[true, true, true, true, true, true, true, true, true, true, true, true, true, true, true, true, true, false, false, false, false, false, false, false, false, false, false, false, false, false, false, false, false, false, false, false, false, false, false, false, false, false, false, false, false, false, false, false, false, false, false, false, false, false, false, false, false, false, false, false, false, false, false, false, false, false, false, false, false, false, false, false, false, false, false, false, false, false, false, false, false, false, false, false, false, false, false, false, false, false, false, false, false, false, false, false, false, false, false, false, false, false, false, false, false, false, false, false, false, false, false, false, false, false, false] rfl rfl (any_of HT_.out (by kernel_rfl)) (fun _ _ _ h => h) (Or.inl ⟨by rfl, ?_⟩) ?_ ?_
                  rotate_left
                  · intro w'
                    go_simp
                    with_reducible rfl
                  rotate_left
                  · simp only [Act.put, List.setIfInBounds_toArray, List.set_cons_zero, List.set_cons_succ, i64_w, i32_w]
                    rfl
                  refine pure_ (i := 17) (N := some 175) (v := ?_) (a' := ?_) #[true, true, true, true, true, true, true, true, true, true, true, true, true, true, true, true, true, true, false, false, false, false, false, false, false, false, false, false, false, false, false, false, false, false, false, false, false, false, false, false, false, false, false, false, false, false, false, false, false, false, false, false, false, false, false, false, false, false, false, false, false, false, false, false, false, false, false, false, false, false, false, false, false, false, false, false, false, false, false, false, false, false, false, false, false, false, false, false, false, false, false, false, false, false, false, false, false, false, false, false, false, false, false, false, false, false, false, false, false, false, false, false, false, false, false] rfl rfl (any_of HT_.out (by kernel_rfl)) (fun _ _ _ h => h) (Or.inl ⟨by rfl, ?_⟩) ?_ ?_
                  rotate_left
                  · intro w'
                    go_simp
                    with_reducible rfl
                  rotate_left
                  · simp only [Act.put, List.setIfInBounds_toArray, List.set_cons_zero, List.set_cons_succ, i64_w, i32_w]
                    rfl
                  refine pure_ (i := 18) (N := some 176) (v := ?_) (a' := ?_) #[true, true, true, true, true, true, true, true, true, true, true, true, true, true, true, true, true, true, true, false, false, false, false, false, false, false, false, false, false, false, false, false, false, false, false, false, false, false, false, false, false, false, false, false, false, false, false, false, false, false, false, false, false, false, false, false, false, false, false, false, false, false, false, false, false, false, false, false, false, false, false, false, false, false, false, false, false, false, false, false, false, false, false, false, false, false, false, false, false, false, false, false, false, false, false, false, false, false, false, false, false, false, false, false, false, false, false, false, false, false, false, false, false, false, false] rfl rfl (any_of HT_.out (by kernel_rfl)) (fun _ _ _ h => h) (Or.inl ⟨by rfl, ?_⟩) ?_ ?_
                  rotate_left
                  · intro w'
                    go_simp
                    with_reducible rfl
                  rotate_left
                  · simp only [Act.put, List.setIfInBounds_toArray, List.set_cons_zero, List.set_cons_succ, i64_w, i32_w]
                    rfl
                  refine pure_ (i := 19) (N := some 177) (v := ?_) (a' := ?_) #[true, true, true, true, true, true, true, true, true, true, true, true, true, true, true, true, true, true, true, true, false, false, false, false, false, false, false, false, false, false, false, false, false, false, false, false, false, false, false, false, false, false, false, false, false, false, false, false, false, false, false, false, false, false, false, false, false, false, false, false, false, false, false, false, false, false, false, false, false, false, false, false, false, false, false, false, false, false, false, false, false, false, false, false, false, false, false, false, false, false, false, false, false, false, false, false, false, false, false, false, false, false, false, false, false, false, false, false, false, false, false, false, false, false, false] rfl rfl (any_of HT_.out (by kernel_rfl)) (fun _ _ _ h => h) (Or.inl ⟨by rfl, ?_⟩) ?_ ?_
                  rotate_left
                  · intro w'
                    go_simp
                    with_reducible rfl
                  rotate_left
                  · simp only [Act.put, List.setIfInBounds_toArray, List.set_cons_zero, List.set_cons_succ, i64_w, i32_w]
                    rfl
                  refine take_ (i := 20) (N := some 178) (v := ?_) (a' := ?_) #[true, true, true, true, true, true, true, true, true, true, true, true, true, true, true, true, true, true, true, true, true, false, false, false, false, false, false, false, false, false, false, false, false, false, false, false, false, false, false, false, false, false, false, false, false, false, false, false, false, false, false, false, false, false, false, false, false, false, false, false, false, false, false, false, false, false, false, false, false, false, false, false, false, false, false, false, false, false, false, false, false, false, false, false, false, false, false, false, false, false, false, false, false, false, false, false, false, false, false, false, false, false, false, false, false, false, false, false, false, false, false, false, false, false, false] rfl rfl (take_ofW HT_.out HW_.out (by kernel_rfl)) (fun _ _ _ h => h) (Or.inl ⟨by rfl, ?_⟩) hHeld ?_ ?_
                  rotate_left
                  · rintro w' ⟨s0, s1, s2, s3, s4, s5, s6, s7, s8, s9, s10, s11, s12, s13⟩
                    go_simp
                    with_reducible rfl
                  rotate_left
                  · simp only [Act.put, List.setIfInBounds_toArray, List.set_cons_zero, List.set_cons_succ, i64_w, i32_w]
                    rfl
                  refine pure_ (i := 21) (N := some 179) (v := ?_) (a' := ?_) #[true, true, true, true, true, true, true, true, true, true, true, true, true, true, true, true, true, true, true, true, true, true, false, false, false, false, false, false, false, false, false, false, false, false, false, false, false, false, false, false, false, false, false, false, false, false, false, false, false, false, false, false, false, false, false, false, false, false, false, false, false, false, false, false, false, false, false, false, false, false, false, false, false, false, false, false, false, false, false, false, false, false, false, false, false, false, false, false, false, false, false, false, false, false, false, false, false, false, false, false, false, false, false, false, false, false, false, false, false, false, false, false, false, false, false] rfl rfl (any_of HT_.out (by kernel_rfl)) (fun _ _ _ h => h) (Or.inl ⟨by rfl, ?_⟩) ?_ ?_
                  rotate_left
                  · intro w'
                    go_simp
                    with_reducible rfl
                  rotate_left
                  · simp only [Act.put, List.setIfInBounds_toArray, List.set_cons_zero, List.set_cons_succ, i64_w, i32_w]
                    rfl
                  refine pure_ (i := 22) (N := some 180) (v := ?_) (a' := ?_) #[true, true, true, true, true, true, true, true, true, true, true, true, true, true, true, true, true, true, true, true, true, true, true, false, false, false, false, false, false, false, false, false, false, false, false, false, false, false, false, false, false, false, false, false, false, false, false, false, false, false, false, false, false, false, false, false, false, false, false, false, false, false, false, false, false, false, false, false, false, false, false, false, false, false, false, false, false, false, false, false, false, false, false, false, false, false, false, false, false, false, false, false, false, false, false, false, false, false, false, false, false, false, false, false, false, false, false, false, false, false, false, false, false, false, false] rfl rfl (any_of HT_.out (by kernel_rfl)) (fun _ _ _ h => h) (Or.inl ⟨by rfl, ?_⟩) ?_ ?_
                  rotate_left
                  · intro w'
                    go_simp
                    with_reducible rfl
                  rotate_left
                  · simp only [Act.put, List.setIfInBounds_toArray, List.set_cons_zero, List.set_cons_succ, i64_w, i32_w]
                    rfl
                  refine pure_ (i := 23) (N := some 181) (v := ?_) (a' := ?_) #[true, true, true, true, true, true, true, true, true, true, true, true, true, true, true, true, true, true, true, true, true, true, true, true, false, false, false, false, false, false, false, false, false, false, false, false, false, false, false, false, false, false, false, false, false, false, false, false, false, false, false, false, false, false, false, false, false, false, false, false, false, false, false, false, false, false, false, false, false, false, false, false, false, false, false, false, false, false, false, false, false, false, false, false, false, false, false, false, false, false, false, false, false, false, false, false, false, false, false, false, false, false, false, false, false, false, false, false, false, false, false, false, false, false, false] rfl rfl (any_of HT_.out (by kernel_rfl)) (fun _ _ _ h => h) (Or.inl ⟨by rfl, ?_⟩) ?_ ?_
                  rotate_left
                  · intro w'
                    go_simp
                    with_reducible rfl
                  rotate_left
                  · simp only [Act.put, List.setIfInBounds_toArray, List.set_cons_zero, List.set_cons_succ, i64_w, i32_w]
                    rfl
                  refine pure_ (i := 24) (N := some 182) (v := ?_) (a' := ?_) #[true, true, true, true, true, true, true, true, true, true, true, true, true, true, true, true, true, true, true, true, true, true, true, true, true, false, false, false, false, false, false, false, false, false, false, false, false, false, false, false, false, false, false, false, false, false, false, false, false, false, false, false, false, false, false, false, false, false, false, false, false, false, false, false, false, false, false, false, false, false, false, false, false, false, false, false, false, false, false, false, false, false, false, false, false, false, false, false, false, false, false, false, false, false, false, false, false, false, false, false, false, false, false, false, false, false, false, false, false, false, false, false, false, false, false] rfl rfl (any_of HT_.out (by kernel_rfl)) (fun _ _ _ h => h) (Or.inl ⟨by rfl, ?_⟩) ?_ ?_
                  rotate_left
                  · intro w'
                    go_simp
                    with_reducible rfl
                  rotate_left
                  · simp only [Act.put, List.setIfInBounds_toArray, List.set_cons_zero, List.set_cons_succ, i64_w, i32_w]
                    rfl
                  refine take_ (i := 25) (N := some 183) (v := ?_) (a' := ?_) #[true, true, true, true, true, true, true, true, true, true, true, true, true, true, true, true, true, true, true, true, true, true, true, true, true, true, false, false, false, false, false, false, false, false, false, false, false, false, false, false, false, false, false, false, false, false, false, false, false, false, false, false, false, false, false, false, false, false, false, false, false, false, false, false, false, false, false, false, false, false, false, false, false, false, false, false, false, false, false, false, false, false, false, false, false, false, false, false, false, false, false, false, false, false, false, false, false, false, false, false, false, false, false, false, false, false, false, false, false, false, false, false, false, false, false] rfl rfl (take_ofW HT_.out HW_.out (by kernel_rfl)) (fun _ _ _ h => h) (Or.inl ⟨by rfl, ?_⟩) hHeld ?_ ?_
                  rotate_left
                  · rintro w' ⟨s0, s1, s2, s3, s4, s5, s6, s7, s8, s9, s10, s11, s12, s13⟩
                    go_simp
                    with_reducible rfl
                  rotate_left
                  · simp only [Act.put, List.setIfInBounds_toArray, List.set_cons_zero, List.set_cons_succ, i64_w, i32_w]
                    rfl
                  refine pure_ (i := 26) (N := some 184) (v := ?_) (a' := ?_) #[true, true, true, true, true, true, true, true, true, true, true, true, true, true, true, true, true, true, true, true, true, true, true, true, true, true, true, false, false, false, false, false, false, false, false, false, false, false, false, false, false, false, false, false, false, false, false, false, false, false, false, false, false, false, false, false, false, false, false, false, false, false, false, false, false, false, false, false, false, false, false, false, false, false, false, false, false, false, false, false, false, false, false, false, false, false, false, false, false, false, false, false, false, false, false, false, false, false, false, false, false, false, false, false, false, false, false, false, false, false, false, false, false, false, false] rfl rfl (any_of HT_.out (by kernel_rfl)) (fun _ _ _ h => h) (Or.inl ⟨by rfl, ?_⟩) ?_ ?_
                  rotate_left
                  · intro w'
                    go_simp
                    with_reducible rfl
                  rotate_left
                  · simp only [Act.put, List.setIfInBounds_toArray, List.set_cons_zero, List.set_cons_succ, i64_w, i32_w]
                    rfl
                  refine pure_ (i := 27) (N := some 185) (v := ?_) (a' := ?_) #[true, true, true, true, true, true, true, true, true, true, true, true, true, true, true, true, true, true, true, true, true, true, true, true, true, true, true, true, false, false, false, false, false, false, false, false, false, false, false, false, false, false, false, false, false, false, false, false, false, false, false, false, false, false, false, false, false, false, false, false, false, false, false, false, false, false, false, false, false, false, false, false, false, false, false, false, false, false, false, false, false, false, false, false, false, false, false, false, false, false, false, false, false, false, false, false, false, false, false, false, false, false, false, false, false, false, false, false, false, false, false, false, false, false, false] rfl rfl (any_of HT_.out (by kernel_rfl)) (fun _ _ _ h => h) (Or.inl ⟨by rfl, ?_⟩) ?_ ?_
                  rotate_left
                  · intro w'
                    go_simp
                    with_reducible rfl
                  rotate_left
                  · simp only [Act.put, List.setIfInBounds_toArray, List.set_cons_zero, List.set_cons_succ, i64_w, i32_w]
                    rfl
                  refine pure_ (i := 28) (N := some 186) (v := ?_) (a' := ?_) #[true, true, true, true, true, true, true, true, true, true, true, true, true, true, true, true, true, true, true, true, true, true, true, true, true, true, true, true, true, false, false, false, false, false, false, false, false, false, false, false, false, false, false, false, false, false, false, false, false, false, false, false, false, false, false, false, false, false, false, false, false, false, false, false, false, false, false, false, false, false, false, false, false, false, false, false, false, false, false, false, false, false, false, false, false, false, false, false, false, false, false, false, false, false, false, false, false, false, false, false, false, false, false, false, false, false, false, false, false, false, false, false, false, false, false] rfl rfl (any_of HT_.out (by kernel_rfl)) (fun _ _ _ h => h) (Or.inl ⟨by rfl, ?_⟩) ?_ ?_
                  rotate_left
                  · intro w'
                    go_simp
                    with_reducible rfl
                  rotate_left
                  · simp only [Act.put, List.setIfInBounds_toArray, List.set_cons_zero, List.set_cons_succ, i64_w, i32_w]
                    rfl
                  refine pure_ (i := 29) (N := some 187) (v := ?_) (a' := ?_) #[true, true, true, true, true, true, true, true, true, true, true, true, true, true, true, true, true, true, true, true, true, true, true, true, true, true, true, true, true, true, false, false, false, false, false, false, false, false, false, false, false, false, false, false, false, false, false, false, false, false, false, false, false, false, false, false, false, false, false, false, false, false, false, false, false, false, false, false, false, false, false, false, false, false, false, false, false, false, false, false, false, false, false, false, false, false, false, false, false, false, false, false, false, false, false, false, false, false, false, false, false, false, false, false, false, false, false, false, false, false, false, false, false, false, false] rfl rfl (any_of HT_.out (by kernel_rfl)) (fun _ _ _ h => h) (Or.inl ⟨by rfl, ?_⟩) ?_ ?_
                  rotate_left
                  · intro w'
                    go_simp
                    with_reducible rfl
                  rotate_left
                  · simp only [Act.put, List.setIfInBounds_toArray, List.set_cons_zero, List.set_cons_succ, i64_w, i32_w]
                    rfl
                  refine pure_ (i := 30) (N := some 188) (v := ?_) (a' := ?_) #[true, true, true, true, true, true, true, true, true, true, true, true, true, true, true, true, true, true, true, true, true, true, true, true, true, true, true, true, true, true, true, false, false, false, false, false, false, false, false, false, false, false, false, false, false, false, false, false, false, false, false, false, false, false, false, false, false, false, false, false, false, false, false, false, false, false, false, false, false, false, false, false, false, false, false, false, false, false, false, false, false, false, false, false, false, false, false, false, false, false, false, false, false, false, false, false, false, false, false, false, false, false, false, false, false, false, false, false, false, false, false, false, false, false, false] rfl rfl (any_of HT_.out (by kernel_rfl)) (fun _ _ _ h => h) (Or.inl ⟨by rfl, ?_⟩) ?_ ?_
                  rotate_left
                  · intro w'
                    go_simp
                    with_reducible rfl
                  rotate_left
                  · simp only [Act.put, List.setIfInBounds_toArray, List.set_cons_zero, List.set_cons_succ, i64_w, i32_w]
                    rfl
                  refine take_ (i := 31) (N := some 189) (v := ?_) (a' := ?_) #[true, true, true, true, true, true, true, true, true, true, true, true, true, true, true, true, true, true, true, true, true, true, true, true, true, true, true, true, true, true, true, true, false, false, false, false, false, false, false, false, false, false, false, false, false, false, false, false, false, false, false, false, false, false, false, false, false, false, false, false, false, false, false, false, false, false, false, false, false, false, false, false, false, false, false, false, false, false, false, false, false, false, false, false, false, false, false, false, false, false, false, false, false, false, false, false, false, false, false, false, false, false, false, false, false, false, false, false, false, false, false, false, false, false, false] rfl rfl (take_ofW HT_.out HW_.out (by kernel_rfl)) (fun _ _ _ h => h) (Or.inl ⟨by rfl, ?_⟩) hHeld ?_ ?_
                  rotate_left
                  · rintro w' ⟨s0, s1, s2, s3, s4, s5, s6, s7, s8, s9, s10, s11, s12, s13⟩
                    go_simp
                    with_reducible rfl
                  rotate_left
                  · simp only [Act.put, List.setIfInBounds_toArray, List.set_cons_zero, List.set_cons_succ, i64_w, i32_w]
                    rfl
                  refine pure_ (i := 32) (N := some 190) (v := ?_) (a' := ?_) #[true, true, true, true, true, true, true, true, true, true, true, true, true, true, true, true, true, true, true, true, true, true, true, true, true, true, true, true, true, true, true, true, true, false, false, false, false, false, false, false, false, false, false, false, false, false, false, false, false, false, false, false, false, false, false, false, false, false, false, false, false, false, false, false, false, false, false, false, false, false, false, false, false, false, false, false, false, false, false, false, false, false, false, false, false, false, false, false, false, false, false, false, false, false, false, false, false, false, false, false, false, false, false, false, false, false, false, false, false, false, false, false, false, false, false] rfl rfl (any_of HT_.out (by kernel_rfl)) (fun _ _ _ h => h) (Or.inl ⟨by rfl, ?_⟩) ?_ ?_
                  rotate_left
                  · intro w'
                    go_simp
                    with_reducible rfl
                  rotate_left
                  · simp only [Act.put, List.setIfInBounds_toArray, List.set_cons_zero, List.set_cons_succ, i64_w, i32_w]
                    rfl
                  refine pure_ (i := 33) (N := some 191) (v := ?_) (a' := ?_) #[true, true, true, true, true, true, true, true, true, true, true, true, true, true, true, true, true, true, true, true, true, true, true, true, true, true, true, true, true, true, true, true, true, true, false, false, false, false, false, false, false, false, false, false, false, false, false, false, false, false, false, false, false, false, false, false, false, false, false, false, false, false, false, false, false, false, false, false, false, false, false, false, false, false, false, false, false, false, false, false, false, false, false, false, false, false, false, false, false, false, false, false, false, false, false, false, false, false, false, false, false, false, false, false, false, false, false, false, false, false, false, false, false, false, false] rfl rfl (any_of HT_.out (by kernel_rfl)) (fun _ _ _ h => h) (Or.inl ⟨by rfl, ?_⟩) ?_ ?_
                  rotate_left
                  · intro w'
                    go_simp
                    with_reducible rfl
                  rotate_left
                  · simp only [Act.put, List.setIfInBounds_toArray, List.set_cons_zero, List.set_cons_succ, i64_w, i32_w]
                    rfl
                  refine pure_ (i := 34) (N := some 192) (v := ?_) (a' := ?_) #[true, true, true, true, true, true, true, true, true, true, true, true, true, true, true, true, true, true, true, true, true, true, true, true, true, true, true, true, true, true, true, true, true, true, true, false, false, false, false, false, false, false, false, false, false, false, false, false, false, false, false, false, false, false, false, false, false, false, false, false, false, false, false, false, false, false, false, false, false, false, false, false, false, false, false, false, false, false, false, false, false, false, false, false, false, false, false, false, false, false, false, false, false, false, false, false, false, false, false, false, false, false, false, false, false, false, false, false, false, false, false, false, false, false, false] rfl rfl (any_of HT_.out (by kernel_rfl)) (fun _ _ _ h => h) (Or.inl ⟨by rfl, ?_⟩) ?_ ?_
                  rotate_left
                  · intro w'
                    go_simp
                    with_reducible rfl
                  rotate_left
                  · simp only [Act.put, List.setIfInBounds_toArray, List.set_cons_zero, List.set_cons_succ, i64_w, i32_w]
                    rfl
                  refine pure_ (i := 35) (N := some 193) (v := ?_) (a' := ?_) #[true, true, true, true, true, true, true, true, true, true, true, true, true, true, true, true, true, true, true, true, true, true, true, true, true, true, true, true, true, true, true, true, true, true, true, true, false, false, false, false, false, false, false, false, false, false, false, false, false, false, false, false, false, false, false, false, false, false, false, false, false, false, false, false, false, false, false, false, false, false, false, false, false, false, false, false, false, false, false, false, false, false, false, false, false, false, false, false, false, false, false, false, false, false, false, false, false, false, false, false, false, false, false, false, false, false, false, false, false, false, false, false, false, false, false] rfl rfl (any_of HT_.out (by kernel_rfl)) (fun _ _ _ h => h) (Or.inl ⟨by rfl, ?_⟩) ?_ ?_
                  rotate_left
                  · intro w'
                    go_simp
                    with_reducible rfl
                  rotate_left
                  · simp only [Act.put, List.setIfInBounds_toArray, List.set_cons_zero, List.set_cons_succ, i64_w, i32_w]
                    rfl
                  refine take_ (i := 36) (N := some 194) (v := ?_) (a' := ?_) #[true, true, true, true, true, true, true, true, true, true, true, true, true, true, true, true, true, true, true, true, true, true, true, true, true, true, true, true, true, true, true, true, true, true, true, true, true, false, false, false, false, false, false, false, false, false, false, false, false, false, false, false, false, false, false, false, false, false, false, false, false, false, false, false, false, false, false, false, false, false, false, false, false, false, false, false, false, false, false, false, false, false, false, false, false, false, false, false, false, false, false, false, false, false, false, false, false, false, false, false, false, false, false, false, false, false, false, false, false, false, false, false, false, false, false] rfl rfl (take_ofW HT_.out HW_.out (by kernel_rfl)) (fun _ _ _ h => h) (Or.inl ⟨by rfl, ?_⟩) hHeld ?_ ?_
                  rotate_left
                  · rintro w' ⟨s0, s1, s2, s3, s4, s5, s6, s7, s8, s9, s10, s11, s12, s13⟩
                    go_simp
                    with_reducible rfl
                  rotate_left
                  · simp only [Act.put, List.setIfInBounds_toArray, List.set_cons_zero, List.set_cons_succ, i64_w, i32_w]
                    rfl
                  refine pure_ (i := 37) (N := some 195) (v := ?_) (a' := ?_) #[true, true, true, true, true, true, true, true, true, true, true, true, true, true, true, true, true, true, true, true, true, true, true, true, true, true, true, true, true, true, true, true, true, true, true, true, true, true, false, false, false, false, false, false, false, false, false, false, false, false, false, false, false, false, false, false, false, false, false, false, false, false, false, false, false, false, false, false, false, false, false, false, false, false, false, false, false, false, false, false, false, false, false, false, false, false, false, false, false, false, false, false, false, false, false, false, false, false, false, false, false, false, false, false, false, false, false, false, false, false, false, false, false, false, false] rfl rfl (any_of HT_.out (by kernel_rfl)) (fun _ _ _ h => h) (Or.inl ⟨by rfl, ?_⟩) ?_ ?_
                  rotate_left
                  · intro w'
                    go_simp
                    with_reducible rfl
                  rotate_left
                  · simp only [Act.put, List.setIfInBounds_toArray, List.set_cons_zero, List.set_cons_succ, i64_w, i32_w]
                    rfl
                  refine pure_ (i := 38) (N := some 196) (v := ?_) (a' := ?_) #[true, true, true, true, true, true, true, true, true, true, true, true, true, true, true, true, true, true, true, true, true, true, true, true, true, true, true, true, true, true, true, true, true, true, true, true, true, true, true, false, false, false, false, false, false, false, false, false, false, false, false, false, false, false, false, false, false, false, false, false, false, false, false, false, false, false, false, false, false, false, false, false, false, false, false, false, false, false, false, false, false, false, false, false, false, false, false, false, false, false, false, false, false, false, false, false, false, false, false, false, false, false, false, false, false, false, false, false, false, false, false, false, false, false, false] rfl rfl (any_of HT_.out (by kernel_rfl)) (fun _ _ _ h => h) (Or.inl ⟨by rfl, ?_⟩) ?_ ?_
                  rotate_left
                  · intro w'
                    go_simp
                    with_reducible rfl
                  rotate_left
                  · simp only [Act.put, List.setIfInBounds_toArray, List.set_cons_zero, List.set_cons_succ, i64_w, i32_w]
                    rfl
                  refine pure_ (i := 39) (N := some 197) (v := ?_) (a' := ?_) #[true, true, true, true, true, true, true, true, true, true, true, true, true, true, true, true, true, true, true, true, true, true, true, true, true, true, true, true, true, true, true, true, true, true, true, true, true, true, true, true, false, false, false, false, false, false, false, false, false, false, false, false, false, false, false, false, false, false, false, false, false, false, false, false, false, false, false, false, false, false, false, false, false, false, false, false, false, false, false, false, false, false, false, false, false, false, false, false, false, false, false, false, false, false, false, false, false, false, false, false, false, false, false, false, false, false, false, false, false, false, false, false, false, false, false] rfl rfl (any_of HT_.out (by kernel_rfl)) (fun _ _ _ h => h) (Or.inl ⟨by rfl, ?_⟩) ?_ ?_
                  rotate_left
                  · intro w'
                    go_simp
                    with_reducible rfl
                  rotate_left
                  · simp only [Act.put, List.setIfInBounds_toArray, List.set_cons_zero, List.set_cons_succ, i64_w, i32_w]
                    rfl
                  refine pure_ (i := 40) (N := some 198) (v := ?_) (a' := ?_) #[true, true, true, true, true, true, true, true, true, true, true, true, true, true, true, true, true, true, true, true, true, true, true, true, true, true, true, true, true, true, true, true, true, true, true, true, true, true, true, true, true, false, false, false, false, false, false, false, false, false, false, false, false, false, false, false, false, false, false, false, false, false, false, false, false, false, false, false, false, false, false, false, false, false, false, false, false, false, false, false, false, false, false, false, false, false, false, false, false, false, false, false, false, false, false, false, false, false, false, false, false, false, false, false, false, false, false, false, false, false, false, false, false, false, false] rfl rfl (any_of HT_.out (by kernel_rfl)) (fun _ _ _ h => h) (Or.inl ⟨by rfl, ?_⟩) ?_ ?_
                  rotate_left
                  · intro w'
                    go_simp
                    with_reducible rfl
                  rotate_left
                  · simp only [Act.put, List.setIfInBounds_toArray, List.set_cons_zero, List.set_cons_succ, i64_w, i32_w]
                    rfl
                  refine pure_ (i := 41) (N := some 199) (v := ?_) (a' := ?_) #[true, true, true, true, true, true, true, true, true, true, true, true, true, true, true, true, true, true, true, true, true, true, true, true, true, true, true, true, true, true, true, true, true, true, true, true, true, true, true, true, true, true, false, false, false, false, false, false, false, false, false, false, false, false, false, false, false, false, false, false, false, false, false, false, false, false, false, false, false, false, false, false, false, false, false, false, false, false, false, false, false, false, false, false, false, false, false, false, false, false, false, false, false, false, false, false, false, false, false, false, false, false, false, false, false, false, false, false, false, false, false, false, false, false, false] rfl rfl (any_of HT_.out (by kernel_rfl)) (fun _ _ _ h => h) (Or.inl ⟨by rfl, ?_⟩) ?_ ?_
                  rotate_left
                  · intro w'
                    go_simp
                    with_reducible rfl
                  rotate_left
                  · simp only [Act.put, List.setIfInBounds_toArray, List.set_cons_zero, List.set_cons_succ, i64_w, i32_w]
                    rfl
                  refine take_ (i := 42) (N := some 200) (v := ?_) (a' := ?_) #[true, true, true, true, true, true, true, true, true, true, true, true, true, true, true, true, true, true, true, true, true, true, true, true, true, true, true, true, true, true, true, true, true, true, true, true, true, true, true, true, true, true, true, false, false, false, false, false, false, false, false, false, false, false, false, false, false, false, false, false, false, false, false, false, false, false, false, false, false, false, false, false, false, false, false, false, false, false, false, false, false, false, false, false, false, false, false, false, false, false, false, false, false, false, false, false, false, false, false, false, false, false, false, false, false, false, false, false, false, false, false, false, false, false, false] rfl rfl (take_ofW HT_.out HW_.out (by kernel_rfl)) (fun _ _ _ h => h) (Or.inl ⟨by rfl, ?_⟩) hHeld ?_ ?_
                  rotate_left
                  · rintro w' ⟨s0, s1, s2, s3, s4, s5, s6, s7, s8, s9, s10, s11, s12, s13⟩
                    go_simp
                    with_reducible rfl
                  rotate_left
                  · simp only [Act.put, List.setIfInBounds_toArray, List.set_cons_zero, List.set_cons_succ, i64_w, i32_w]
                    rfl
                  refine pure_ (i := 43) (N := some 201) (v := ?_) (a' := ?_) #[true, true, true, true, true, true, true, true, true, true, true, true, true, true, true, true, true, true, true, true, true, true, true, true, true, true, true, true, true, true, true, true, true, true, true, true, true, true, true, true, true, true, true, true, false, false, false, false, false, false, false, false, false, false, false, false, false, false, false, false, false, false, false, false, false, false, false, false, false, false, false, false, false, false, false, false, false, false, false, false, false, false, false, false, false, false, false, false, false, false, false, false, false, false, false, false, false, false, false, false, false, false, false, false, false, false, false, false, false, false, false, false, false, false, false] rfl rfl (any_of HT_.out (by kernel_rfl)) (fun _ _ _ h => h) (Or.inl ⟨by rfl, ?_⟩) ?_ ?_
                  rotate_left
                  · intro w'
                    go_simp
                    with_reducible rfl
                  rotate_left
                  · simp only [Act.put, List.setIfInBounds_toArray, List.set_cons_zero, List.set_cons_succ, i64_w, i32_w]
                    rfl
                  refine pure_ (i := 44) (N := some 202) (v := ?_) (a' := ?_) #[true, true, true, true, true, true, true, true, true, true, true, true, true, true, true, true, true, true, true, true, true, true, true, true, true, true, true, true, true, true, true, true, true, true, true, true, true, true, true, true, true, true, true, true, true, false, false, false, false, false, false, false, false, false, false, false, false, false, false, false, false, false, false, false, false, false, false, false, false, false, false, false, false, false, false, false, false, false, false, false, false, false, false, false, false, false, false, false, false, false, false, false, false, false, false, false, false, false, false, false, false, false, false, false, false, false, false, false, false, false, false, false, false, false, false] rfl rfl (any_of HT_.out (by kernel_rfl)) (fun _ _ _ h => h) (Or.inl ⟨by rfl, ?_⟩) ?_ ?_
                  rotate_left
                  · intro w'
                    go_simp
                    with_reducible rfl
                  rotate_left
                  · simp only [Act.put, List.setIfInBounds_toArray, List.set_cons_zero, List.set_cons_succ, i64_w, i32_w]
                    rfl
                  refine pure_ (i := 45) (N := some 203) (v := ?_) (a' := ?_) #[true, true, true, true, true, true, true, true, true, true, true, true, true, true, true, true, true, true, true, true, true, true, true, true, true, true, true, true, true, true, true, true, true, true, true, true, true, true, true, true, true, true, true, true, true, true, false, false, false, false, false, false, false, false, false, false, false, false, false, false, false, false, false, false, false, false, false, false, false, false, false, false, false, false, false, false, false, false, false, false, false, false, false, false, false, false, false, false, false, false, false, false, false, false, false, false, false, false, false, false, false, false, false, false, false, false, false, false, false, false, false, false, false, false, false] rfl rfl (any_of HT_.out (by kernel_rfl)) (fun _ _ _ h => h) (Or.inl ⟨by rfl, ?_⟩) ?_ ?_
                  rotate_left
                  · intro w'
                    go_simp
                    with_reducible rfl
                  rotate_left
                  · simp only [Act.put, List.setIfInBounds_toArray, List.set_cons_zero, List.set_cons_succ, i64_w, i32_w]
                    rfl
                  refine pure_ (i := 46) (N := some 204) (v := ?_) (a' := ?_) #[true, true, true, true, true, true, true, true, true, true, true, true, true, true, true, true, true, true, true, true, true, true, true, true, true, true, true, true, true, true, true, true, true, true, true, true, true, true, true, true, true, true, true, true, true, true, true, false, false, false, false, false, false, false, false, false, false, false, false, false, false, false, false, false, false, false, false, false, false, false, false, false, false, false, false, false, false, false, false, false, false, false, false, false, false, false, false, false, false, false, false, false, false, false, false, false, false, false, false, false, false, false, false, false, false, false, false, false, false, false, false, false, false, false, false] rfl rfl (any_of HT_.out (by kernel_rfl)) (fun _ _ _ h => h) (Or.inl ⟨by rfl, ?_⟩) ?_ ?_
                  rotate_left
                  · intro w'
                    go_simp
                    with_reducible rfl
                  rotate_left
                  · simp only [Act.put, List.setIfInBounds_toArray, List.set_cons_zero, List.set_cons_succ, i64_w, i32_w]
                    rfl
                  refine take_ (i := 47) (N := some 205) (v := ?_) (a' := ?_) #[true, true, true, true, true, true, true, true, true, true, true, true, true, true, true, true, true, true, true, true, true, true, true, true, true, true, true, true, true, true, true, true, true, true, true, true, true, true, true, true, true, true, true, true, true, true, true, true, false, false, false, false, false, false, false, false, false, false, false, false, false, false, false, false, false, false, false, false, false, false, false, false, false, false, false, false, false, false, false, false, false, false, false, false, false, false, false, false, false, false, false, false, false, false, false, false, false, false, false, false, false, false, false, false, false, false, false, false, false, false, false, false, false, false, false] rfl rfl (take_ofW HT_.out HW_.out (by kernel_rfl)) (fun _ _ _ h => h) (Or.inl ⟨by rfl, ?_⟩) hHeld ?_ ?_
                  rotate_left
                  · rintro w' ⟨s0, s1, s2, s3, s4, s5, s6, s7, s8, s9, s10, s11, s12, s13⟩
                    go_simp
                    with_reducible rfl
                  rotate_left
                  · simp only [Act.put, List.setIfInBounds_toArray, List.set_cons_zero, List.set_cons_succ, i64_w, i32_w]
                    rfl
                  refine pure_ (i := 48) (N := some 206) (v := ?_) (a' := ?_) #[true, true, true, true, true, true, true, true, true, true, true, true, true, true, true, true, true, true, true, true, true, true, true, true, true, true, true, true, true, true, true, true, true, true, true, true, true, true, true, true, true, true, true, true, true, true, true, true, true, false, false, false, false, false, false, false, false, false, false, false, false, false, false, false, false, false, false, false, false, false, false, false, false, false, false, false, false, false, false, false, false, false, false, false, false, false, false, false, false, false, false, false, false, false, false, false, false, false, false, false, false, false, false, false, false, false, false, false, false, false, false, false, false, false, false] rfl rfl (any_of HT_.out (by kernel_rfl)) (fun _ _ _ h => h) (Or.inl ⟨by rfl, ?_⟩) ?_ ?_
                  rotate_left
                  · intro w'
                    go_simp
                    with_reducible rfl
                  rotate_left
                  · simp only [Act.put, List.setIfInBounds_toArray, List.set_cons_zero, List.set_cons_succ, i64_w, i32_w]
                    rfl
                  refine pure_ (i := 49) (N := some 207) (v := ?_) (a' := ?_) #[true, true, true, true, true, true, true, true, true, true, true, true, true, true, true, true, true, true, true, true, true, true, true, true, true, true, true, true, true, true, true, true, true, true, true, true, true, true, true, true, true, true, true, true, true, true, true, true, true, true, false, false, false, false, false, false, false, false, false, false, false, false, false, false, false, false, false, false, false, false, false, false, false, false, false, false, false, false, false, false, false, false, false, false, false, false, false, false, false, false, false, false, false, false, false, false, false, false, false, false, false, false, false, false, false, false, false, false, false, false, false, false, false, false, false] rfl rfl (any_of HT_.out (by kernel_rfl)) (fun _ _ _ h => h) (Or.inl ⟨by rfl, ?_⟩) ?_ ?_
                  rotate_left
                  · intro w'
                    go_simp
                    with_reducible rfl
                  rotate_left
                  · simp only [Act.put, List.setIfInBounds_toArray, List.set_cons_zero, List.set_cons_succ, i64_w, i32_w]
                    rfl
                  refine pure_ (i := 50) (N := some 208) (v := ?_) (a' := ?_) #[true, true, true, true, true, true, true, true, true, true, true, true, true, true, true, true, true, true, true, true, true, true, true, true, true, true, true, true, true, true, true, true, true, true, true, true, true, true, true, true, true, true, true, true, true, true, true, true, true, true, true, false, false, false, false, false, false, false, false, false, false, false, false, false, false, false, false, false, false, false, false, false, false, false, false, false, false, false, false, false, false, false, false, false, false, false, false, false, false, false, false, false, false, false, false, false, false, false, false, false, false, false, false, false, false, false, false, false, false, false, false, false, false, false, false] rfl rfl (any_of HT_.out (by kernel_rfl)) (fun _ _ _ h => h) (Or.inl ⟨by rfl, ?_⟩) ?_ ?_
                  rotate_left
                  · intro w'
                    go_simp
                    with_reducible rfl
                  rotate_left
                  · simp only [Act.put, List.setIfInBounds_toArray, List.set_cons_zero, List.set_cons_succ, i64_w, i32_w]
                    rfl
                  refine pure_ (i := 51) (N := some 209) (v := ?_) (a' := ?_) #[true, true, true, true, true, true, true, true, true, true, true, true, true, true, true, true, true, true, true, true, true, true, true, true, true, true, true, true, true, true, true, true, true, true, true, true, true, true, true, true, true, true, true, true, true, true, true, true, true, true, true, true, false, false, false, false, false, false, false, false, false, false, false, false, false, false, false, false, false, false, false, false, false, false, false, false, false, false, false, false, false, false, false, false, false, false, false, false, false, false, false, false, false, false, false, false, false, false, false, false, false, false, false, false, false, false, false, false, false, false, false, false, false, false, false] rfl rfl (any_of HT_.out (by kernel_rfl)) (fun _ _ _ h => h) (Or.inl ⟨by rfl, ?_⟩) ?_ ?_
                  rotate_left
                  · intro w'
                    go_simp
                    with_reducible rfl
                  rotate_left
                  · simp only [Act.put, List.setIfInBounds_toArray, List.set_cons_zero, List.set_cons_succ, i64_w, i32_w]
                    rfl
                  refine take_ (i := 52) (N := some 210) (v := ?_) (a' := ?_) #[true, true, true, true, true, true, true, true, true, true, true, true, true, true, true, true, true, true, true, true, true, true, true, true, true, true, true, true, true, true, true, true, true, true, true, true, true, true, true, true, true, true, true, true, true, true, true, true, true, true, true, true, true, false, false, false, false, false, false, false, false, false, false, false, false, false, false, false, false, false, false, false, false, false, false, false, false, false, false, false, false, false, false, false, false, false, false, false, false, false, false, false, false, false, false, false, false, false, false, false, false, false, false, false, false, false, false, false, false, false, false, false, false, false, false] rfl rfl (take_ofW HT_.out HW_.out (by kernel_rfl)) (fun _ _ _ h => h) (Or.inl ⟨by rfl, ?_⟩) hHeld ?_ ?_
                  rotate_left
                  · rintro w' ⟨s0, s1, s2, s3, s4, s5, s6, s7, s8, s9, s10, s11, s12, s13⟩
                    go_simp
                    with_reducible rfl
                  rotate_left
                  · simp only [Act.put, List.setIfInBounds_toArray, List.set_cons_zero, List.set_cons_succ, i64_w, i32_w]
                    rfl
                  refine pure_ (i := 53) (N := some 211) (v := ?_) (a' := ?_) #[true, true, true, true, true, true, true, true, true, true, true, true, true, true, true, true, true, true, true, true, true, true, true, true, true, true, true, true, true, true, true, true, true, true, true, true, true, true, true, true, true, true, true, true, true, true, true, true, true, true, true, true, true, true, false, false, false, false, false, false, false, false, false, false, false, false, false, false, false, false, false, false, false, false, false, false, false, false, false, false, false, false, false, false, false, false, false, false, false, false, false, false, false, false, false, false, false, false, false, false, false, false, false, false, false, false, false, false, false, false, false, false, false, false, false] rfl rfl (any_of HT_.out (by kernel_rfl)) (fun _ _ _ h => h) (Or.inl ⟨by rfl, ?_⟩) ?_ ?_
                  rotate_left
                  · intro w'
                    go_simp
                    with_reducible rfl
                  rotate_left
                  · simp only [Act.put, List.setIfInBounds_toArray, List.set_cons_zero, List.set_cons_succ, i64_w, i32_w]
                    rfl
                  refine pure_ (i := 54) (N := some 212) (v := ?_) (a' := ?_) #[true, true, true, true, true, true, true, true, true, true, true, true, true, true, true, true, true, true, true, true, true, true, true, true, true, true, true, true, true, true, true, true, true, true, true, true, true, true, true, true, true, true, true, true, true, true, true, true, true, true, true, true, true, true, true, false, false, false, false, false, false, false, false, false, false, false, false, false, false, false, false, false, false, false, false, false, false, false, false, false, false, false, false, false, false, false, false, false, false, false, false, false, false, false, false, false, false, false, false, false, false, false, false, false, false, false, false, false, false, false, false, false, false, false, false] rfl rfl (any_of HT_.out (by kernel_rfl)) (fun _ _ _ h => h) (Or.inl ⟨by rfl, ?_⟩) ?_ ?_
                  rotate_left
                  · intro w'
                    go_simp
                    with_reducible rfl
                  rotate_left
                  · simp only [Act.put, List.setIfInBounds_toArray, List.set_cons_zero, List.set_cons_succ, i64_w, i32_w]
                    rfl
                  refine pure_ (i := 55) (N := some 213) (v := ?_) (a' := ?_) #[true, true, true, true, true, true, true, true, true, true, true, true, true, true, true, true, true, true, true, true, true, true, true, true, true, true, true, true, true, true, true, true, true, true, true, true, true, true, true, true, true, true, true, true, true, true, true, true, true, true, true, true, true, true, true, true, false, false, false, false, false, false, false, false, false, false, false, false, false, false, false, false, false, false, false, false, false, false, false, false, false, false, false, false, false, false, false, false, false, false, false, false, false, false, false, false, false, false, false, false, false, false, false, false, false, false, false, false, false, false, false, false, false, false, false] rfl rfl (any_of HT_.out (by kernel_rfl)) (fun _ _ _ h => h) (Or.inl ⟨by rfl, ?_⟩) ?_ ?_
                  rotate_left
                  · intro w'
                    go_simp
                    with_reducible rfl
                  rotate_left
                  · simp only [Act.put, List.setIfInBounds_toArray, List.set_cons_zero, List.set_cons_succ, i64_w, i32_w]
                    rfl
                  refine pure_ (i := 56) (N := some 214) (v := ?_) (a' := ?_) #[true, true, true, true, true, true, true, true, true, true, true, true, true, true, true, true, true, true, true, true, true, true, true, true, true, true, true, true, true, true, true, true, true, true, true, true, true, true, true, true, true, true, true, true, true, true, true, true, true, true, true, true, true, true, true, true, true, false, false, false, false, false, false, false, false, false, false, false, false, false, false, false, false, false, false, false, false, false, false, false, false, false, false, false, false, false, false, false, false, false, false, false, false, false, false, false, false, false, false, false, false, false, false, false, false, false, false, false, false, false, false, false, false, false, false] rfl rfl (any_of HT_.out (by kernel_rfl)) (fun _ _ _ h => h) (Or.inl ⟨by rfl, ?_⟩) ?_ ?_
                  rotate_left
                  · intro w'
                    go_simp
                    with_reducible rfl
                  rotate_left
                  · simp only [Act.put, List.setIfInBounds_toArray, List.set_cons_zero, List.set_cons_succ, i64_w, i32_w]
                    rfl
                  refine take_ (i := 57) (N := some 215) (v := ?_) (a' := ?_) #[true, true, true, true, true, true, true, true, true, true, true, true, true, true, true, true, true, true, true, true, true, true, true, true, true, true, true, true, true, true, true, true, true, true, true, true, true, true, true, true, true, true, true, true, true, true, true, true, true, true, true, true, true, true, true, true, true, true, false, false, false, false, false, false, false, false, false, false, false, false, false, false, false, false, false, false, false, false, false, false, false, false, false, false, false, false, false, false, false, false, false, false, false, false, false, false, false, false, false, false, false, false, false, false, false, false, false, false, false, false, false, false, false, false, false] rfl rfl (take_ofW HT_.out HW_.out (by kernel_rfl)) (fun _ _ _ h => h) (Or.inl ⟨by rfl, ?_⟩) hHeld ?_ ?_
                  rotate_left
                  · rintro w' ⟨s0, s1, s2, s3, s4, s5, s6, s7, s8, s9, s10, s11, s12, s13⟩
                    go_simp
                    with_reducible rfl
                  rotate_left
                  · simp only [Act.put, List.setIfInBounds_toArray, List.set_cons_zero, List.set_cons_succ, i64_w, i32_w]
                    rfl
                  refine pure_ (i := 58) (N := some 216) (v := ?_) (a' := ?_) #[true, true, true, true, true, true, true, true, true, true, true, true, true, true, true, true, true, true, true, true, true, true, true, true, true, true, true, true, true, true, true, true, true, true, true, true, true, true, true, true, true, true, true, true, true, true, true, true, true, true, true, true, true, true, true, true, true, true, true, false, false, false, false, false, false, false, false, false, false, false, false, false, false, false, false, false, false, false, false, false, false, false, false, false, false, false, false, false, false, false, false, false, false, false, false, false, false, false, false, false, false, false, false, false, false, false, false, false, false, false, false, false, false, false, false] rfl rfl (any_of HT_.out (by kernel_rfl)) (fun _ _ _ h => h) (Or.inl ⟨by rfl, ?_⟩) ?_ ?_
                  rotate_left
                  · intro w'
                    go_simp
                    with_reducible rfl
                  rotate_left
                  · simp only [Act.put, List.setIfInBounds_toArray, List.set_cons_zero, List.set_cons_succ, i64_w, i32_w]
                    rfl
                  refine pure_ (i := 59) (N := some 217) (v := ?_) (a' := ?_) #[true, true, true, true, true, true, true, true, true, true, true, true, true, true, true, true, true, true, true, true, true, true, true, true, true, true, true, true, true, true, true, true, true, true, true, true, true, true, true, true, true, true, true, true, true, true, true, true, true, true, true, true, true, true, true, true, true, true, true, true, false, false, false, false, false, false, false, false, false, false, false, false, false, false, false, false, false, false, false, false, false, false, false, false, false, false, false, false, false, false, false, false, false, false, false, false, false, false, false, false, false, false, false, false, false, false, false, false, false, false, false, false, false, false, false] rfl rfl (any_of HT_.out (by kernel_rfl)) (fun _ _ _ h => h) (Or.inl ⟨by rfl, ?_⟩) ?_ ?_
                  rotate_left
                  · intro w'
                    go_simp
                    with_reducible rfl
                  rotate_left
                  · simp only [Act.put, List.setIfInBounds_toArray, List.set_cons_zero, List.set_cons_succ, i64_w, i32_w]
                    rfl
                  refine pure_ (i := 60) (N := some 218) (v := ?_) (a' := ?_) #[true, true, true, true, true, true, true, true, true, true, true, true, true, true, true, true, true, true, true, true, true, true, true, true, true, true, true, true, true, true, true, true, true, true, true, true, true, true, true, true, true, true, true, true, true, true, true, true, true, true, true, true, true, true, true, true, true, true, true, true, true, false, false, false, false, false, false, false, false, false, false, false, false, false, false, false, false, false, false, false, false, false, false, false, false, false, false, false, false, false, false, false, false, false, false, false, false, false, false, false, false, false, false, false, false, false, false, false, false, false, false, false, false, false, false] rfl rfl (any_of HT_.out (by kernel_rfl)) (fun _ _ _ h => h) (Or.inl ⟨by rfl, ?_⟩) ?_ ?_
                  rotate_left
                  · intro w'
                    go_simp
                    with_reducible rfl
                  rotate_left
                  · simp only [Act.put, List.setIfInBounds_toArray, List.set_cons_zero, List.set_cons_succ, i64_w, i32_w]
                    rfl
                  refine pure_ (i := 61) (N := some 219) (v := ?_) (a' := ?_) #[true, true, true, true, true, true, true, true, true, true, true, true, true, true, true, true, true, true, true, true, true, true, true, true, true, true, true, true, true, true, true, true, true, true, true, true, true, true, true, true, true, true, true, true, true, true, true, true, true, true, true, true, true, true, true, true, true, true, true, true, true, true, false, false, false, false, false, false, false, false, false, false, false, false, false, false, false, false, false, false, false, false, false, false, false, false, false, false, false, false, false, false, false, false, false, false, false, false, false, false, false, false, false, false, false, false, false, false, false, false, false, false, false, false, false] rfl rfl (any_of HT_.out (by kernel_rfl)) (fun _ _ _ h => h) (Or.inl ⟨by rfl, ?_⟩) ?_ ?_
                  rotate_left
                  · intro w'
                    go_simp
                    with_reducible rfl
                  rotate_left
                  · simp only [Act.put, List.setIfInBounds_toArray, List.set_cons_zero, List.set_cons_succ, i64_w, i32_w]
                    rfl
                  refine pure_ (i := 62) (N := some 220) (v := ?_) (a' := ?_) #[true, true, true, true, true, true, true, true, true, true, true, true, true, true, true, true, true, true, true, true, true, true, true, true, true, true, true, true, true, true, true, true, true, true, true, true, true, true, true, true, true, true, true, true, true, true, true, true, true, true, true, true, true, true, true, true, true, true, true, true, true, true, true, false, false, false, false, false, false, false, false, false, false, false, false, false, false, false, false, false, false, false, false, false, false, false, false, false, false, false, false, false, false, false, false, false, false, false, false, false, false, false, false, false, false, false, false, false, false, false, false, false, false, false, false] rfl rfl (any_of HT_.out (by kernel_rfl)) (fun _ _ _ h => h) (Or.inl ⟨by rfl, ?_⟩) ?_ ?_
                  rotate_left
                  · intro w'
                    go_simp
                    with_reducible rfl
                  rotate_left
                  · simp only [Act.put, List.setIfInBounds_toArray, List.set_cons_zero, List.set_cons_succ, i64_w, i32_w]
                    rfl
                  refine take_ (i := 63) (N := some 221) (v := ?_) (a' := ?_) #[true, true, true, true, true, true, true, true, true, true, true, true, true, true, true, true, true, true, true, true, true, true, true, true, true, true, true, true, true, true, true, true, true, true, true, true, true, true, true, true, true, true, true, true, true, true, true, true, true, true, true, true, true, true, true, true, true, true, true, true, true, true, true, true, false, false, false, false, false, false, false, false, false, false, false, false, false, false, false, false, false, false, false, false, false, false, false, false, false, false, false, false, false, false, false, false, false, false, false, false, false, false, false, false, false, false, false, false, false, false, false, false, false, false, false] rfl rfl (take_ofW HT_.out HW_.out (by kernel_rfl)) (fun _ _ _ h => h) (Or.inl ⟨by rfl, ?_⟩) hHeld ?_ ?_
                  rotate_left
                  · rintro w' ⟨s0, s1, s2, s3, s4, s5, s6, s7, s8, s9, s10, s11, s12, s13⟩
                    go_simp
                    with_reducible rfl
                  rotate_left
                  · simp only [Act.put, List.setIfInBounds_toArray, List.set_cons_zero, List.set_cons_succ, i64_w, i32_w]
                    rfl
                  refine pure_ (i := 64) (N := some 222) (v := ?_) (a' := ?_) #[true, true, true, true, true, true, true, true, true, true, true, true, true, true, true, true, true, true, true, true, true, true, true, true, true, true, true, true, true, true, true, true, true, true, true, true, true, true, true, true, true, true, true, true, true, true, true, true, true, true, true, true, true, true, true, true, true, true, true, true, true, true, true, true, true, false, false, false, false, false, false, false, false, false, false, false, false, false, false, false, false, false, false, false, false, false, false, false, false, false, false, false, false, false, false, false, false, false, false, false, false, false, false, false, false, false, false, false, false, false, false, false, false, false, false] rfl rfl (any_of HT_.out (by kernel_rfl)) (fun _ _ _ h => h) (Or.inl ⟨by rfl, ?_⟩) ?_ ?_
                  rotate_left
                  · intro w'
                    go_simp
                    with_reducible rfl
                  rotate_left
                  · simp only [Act.put, List.setIfInBounds_toArray, List.set_cons_zero, List.set_cons_succ, i64_w, i32_w]
                    rfl
                  refine pure_ (i := 65) (N := some 223) (v := ?_) (a' := ?_) #[true, true, true, true, true, true, true, true, true, true, true, true, true, true, true, true, true, true, true, true, true, true, true, true, true, true, true, true, true, true, true, true, true, true, true, true, true, true, true, true, true, true, true, true, true, true, true, true, true, true, true, true, true, true, true, true, true, true, true, true, true, true, true, true, true, true, false, false, false, false, false, false, false, false, false, false, false, false, false, false, false, false, false, false, false, false, false, false, false, false, false, false, false, false, false, false, false, false, false, false, false, false, false, false, false, false, false, false, false, false, false, false, false, false, false] rfl rfl (any_of HT_.out (by kernel_rfl)) (fun _ _ _ h => h) (Or.inl ⟨by rfl, ?_⟩) ?_ ?_
                  rotate_left
                  · intro w'
                    go_simp
                    with_reducible rfl
                  rotate_left
                  · simp only [Act.put, List.setIfInBounds_toArray, List.set_cons_zero, List.set_cons_succ, i64_w, i32_w]
                    rfl
                  refine pure_ (i := 66) (N := some 224) (v := ?_) (a' := ?_) #[true, true, true, true, true, true, true, true, true, true, true, true, true, true, true, true, true, true, true, true, true, true, true, true, true, true, true, true, true, true, true, true, true, true, true, true, true, true, true, true, true, true, true, true, true, true, true, true, true, true, true, true, true, true, true, true, true, true, true, true, true, true, true, true, true, true, true, false, false, false, false, false, false, false, false, false, false, false, false, false, false, false, false, false, false, false, false, false, false, false, false, false, false, false, false, false, false, false, false, false, false, false, false, false, false, false, false, false, false, false, false, false, false, false, false] rfl rfl (any_of HT_.out (by kernel_rfl)) (fun _ _ _ h => h) (Or.inl ⟨by rfl, ?_⟩) ?_ ?_
                  rotate_left
                  · intro w'
                    go_simp
                    with_reducible rfl
                  rotate_left
                  · simp only [Act.put, List.setIfInBounds_toArray, List.set_cons_zero, List.set_cons_succ, i64_w, i32_w]
                    rfl
                  refine pure_ (i := 67) (N := some 225) (v := ?_) (a' := ?_) #[true, true, true, true, true, true, true, true, true, true, true, true, true, true, true, true, true, true, true, true, true, true, true, true, true, true, true, true, true, true, true, true, true, true, true, true, true, true, true, true, true, true, true, true, true, true, true, true, true, true, true, true, true, true, true, true, true, true, true, true, true, true, true, true, true, true, true, true, false, false, false, false, false, false, false, false, false, false, false, false, false, false, false, false, false, false, false, false, false, false, false, false, false, false, false, false, false, false, false, false, false, false, false, false, false, false, false, false, false, false, false, false, false, false, false] rfl rfl (any_of HT_.out (by kernel_rfl)) (fun _ _ _ h => h) (Or.inl ⟨by rfl, ?_⟩) ?_ ?_
                  rotate_left
                  · intro w'
                    go_simp
                    with_reducible rfl
                  rotate_left
                  · simp only [Act.put, List.setIfInBounds_toArray, List.set_cons_zero, List.set_cons_succ, i64_w, i32_w]
                    rfl
                  refine pure_ (i := 68) (N := some 226) (v := ?_) (a' := ?_) #[true, true, true, true, true, true, true, true, true, true, true, true, true, true, true, true, true, true, true, true, true, true, true, true, true, true, true, true, true, true, true, true, true, true, true, true, true, true, true, true, true, true, true, true, true, true, true, true, true, true, true, true, true, true, true, true, true, true, true, true, true, true, true, true, true, true, true, true, true, false, false, false, false, false, false, false, false, false, false, false, false, false, false, false, false, false, false, false, false, false, false, false, false, false, false, false, false, false, false, false, false, false, false, false, false, false, false, false, false, false, false, false, false, false, false] rfl rfl (any_of HT_.out (by kernel_rfl)) (fun _ _ _ h => h) (Or.inl ⟨by rfl, ?_⟩) ?_ ?_
                  rotate_left
                  · intro w'
                    go_simp
                    with_reducible rfl
                  rotate_left
                  · simp only [Act.put, List.setIfInBounds_toArray, List.set_cons_zero, List.set_cons_succ, i64_w, i32_w]
                    rfl
                  refine pure_ (i := 69) (N := some 227) (v := ?_) (a' := ?_) #[true, true, true, true, true, true, true, true, true, true, true, true, true, true, true, true, true, true, true, true, true, true, true, true, true, true, true, true, true, true, true, true, true, true, true, true, true, true, true, true, true, true, true, true, true, true, true, true, true, true, true, true, true, true, true, true, true, true, true, true, true, true, true, true, true, true, true, true, true, true, false, false, false, false, false, false, false, false, false, false, false, false, false, false, false, false, false, false, false, false, false, false, false, false, false, false, false, false, false, false, false, false, false, false, false, false, false, false, false, false, false, false, false, false, false] rfl rfl (any_of HT_.out (by kernel_rfl)) (fun _ _ _ h => h) (Or.inl ⟨by rfl, ?_⟩) ?_ ?_
                  rotate_left
                  · intro w'
                    go_simp
                    with_reducible rfl
                  rotate_left
                  · simp only [Act.put, List.setIfInBounds_toArray, List.set_cons_zero, List.set_cons_succ, i64_w, i32_w]
                    rfl
                  refine pure_ (i := 71) (N := some 229) (v := ?_) (a' := ?_) #[true, true, true, true, true, true, true, true, true, true, true, true, true, true, true, true, true, true, true, true, true, true, true, true, true, true, true, true, true, true, true, true, true, true, true, true, true, true, true, true, true, true, true, true, true, true, true, true, true, true, true, true, true, true, true, true, true, true, true, true, true, true, true, true, true, true, true, true, true, true, false, true, false, false, false, false, false, false, false, false, false, false, false, false, false, false, false, false, false, false, false, false, false, false, false, false, false, false, false, false, false, false, false, false, false, false, false, false, false, false, false, false, false, false, false] rfl rfl (any_of HT_.out (by kernel_rfl)) (fun _ _ _ h => h) (Or.inl ⟨by rfl, ?_⟩) ?_ ?_
                  rotate_left
                  · intro w'
                    go_simp
                    with_reducible rfl
                  rotate_left
                  · simp only [Act.put, List.setIfInBounds_toArray, List.set_cons_zero, List.set_cons_succ, i64_w, i32_w]
                    rfl
                  refine pure_ (i := 72) (N := some 230) (v := ?_) (a' := ?_) #[true, true, true, true, true, true, true, true, true, true, true, true, true, true, true, true, true, true, true, true, true, true, true, true, true, true, true, true, true, true, true, true, true, true, true, true, true, true, true, true, true, true, true, true, true, true, true, true, true, true, true, true, true, true, true, true, true, true, true, true, true, true, true, true, true, true, true, true, true, true, false, true, true, false, false, false, false, false, false, false, false, false, false, false, false, false, false, false, false, false, false, false, false, false, false, false, false, false, false, false, false, false, false, false, false, false, false, false, false, false, false, false, false, false, false] rfl rfl (any_of HT_.out (by kernel_rfl)) (fun _ _ _ h => h) (Or.inl ⟨by rfl, ?_⟩) ?_ ?_
                  rotate_left
                  · intro w'
                    go_simp
                    with_reducible rfl
                  rotate_left
                  · simp only [Act.put, List.setIfInBounds_toArray, List.set_cons_zero, List.set_cons_succ, i64_w, i32_w]
                    rfl
                  refine pure_ (i := 73) (N := some 231) (v := ?_) (a' := ?_) #[true, true, true, true, true, true, true, true, true, true, true, true, true, true, true, true, true, true, true, true, true, true, true, true, true, true, true, true, true, true, true, true, true, true, true, true, true, true, true, true, true, true, true, true, true, true, true, true, true, true, true, true, true, true, true, true, true, true, true, true, true, true, true, true, true, true, true, true, true, true, false, true, true, true, false, false, false, false, false, false, false, false, false, false, false, false, false, false, false, false, false, false, false, false, false, false, false, false, false, false, false, false, false, false, false, false, false, false, false, false, false, false, false, false, false] rfl rfl (any_of HT_.out (by kernel_rfl)) (fun _ _ _ h => h) (Or.inl ⟨by rfl, ?_⟩) ?_ ?_
                  rotate_left
                  · intro w'
                    go_simp
                    with_reducible rfl
                  rotate_left
                  · simp only [Act.put, List.setIfInBounds_toArray, List.set_cons_zero, List.set_cons_succ, i64_w, i32_w]
                    rfl
                  refine pure_ (i := 74) (N := some 232) (v := ?_) (a' := ?_) #[true, true, true, true, true, true, true, true, true, true, true, true, true, true, true, true, true, true, true, true, true, true, true, true, true, true, true, true, true, true, true, true, true, true, true, true, true, true, true, true, true, true, true, true, true, true, true, true, true, true, true, true, true, true, true, true, true, true, true, true, true, true, true, true, true, true, true, true, true, true, false, true, true, true, true, false, false, false, false, false, false, false, false, false, false, false, false, false, false, false, false, false, false, false, false, false, false, false, false, false, false, false, false, false, false, false, false, false, false, false, false, false, false, false, false] rfl rfl (any_of HT_.out (by kernel_rfl)) (fun _ _ _ h => h) (Or.inl ⟨by rfl, ?_⟩) ?_ ?_
                  rotate_left
                  · intro w'
                    go_simp
                    with_reducible rfl
                  rotate_left
                  · simp only [Act.put, List.setIfInBounds_toArray, List.set_cons_zero, List.set_cons_succ, i64_w, i32_w]
                    rfl
                  refine pure_ (i := 75) (N := some 233) (v := ?_) (a' := ?_) #[true, true, true, true, true, true, true, true, true, true, true, true, true, true, true, true, true, true, true, true, true, true, true, true, true, true, true, true, true, true, true, true, true, true, true, true, true, true, true, true, true, true, true, true, true, true, true, true, true, true, true, true, true, true, true, true, true, true, true, true, true, true, true, true, true, true, true, true, true, true, false, true, true, true, true, true, false, false, false, false, false, false, false, false, false, false, false, false, false, false, false, false, false, false, false, false, false, false, false, false, false, false, false, false, false, false, false, false, false, false, false, false, false, false, false] rfl rfl (any_of HT_.out (by kernel_rfl)) (fun _ _ _ h => h) (Or.inl ⟨by rfl, ?_⟩) ?_ ?_
                  rotate_left
                  · intro w'
                    go_simp
                    with_reducible rfl
                  rotate_left
                  · simp only [Act.put, List.setIfInBounds_toArray, List.set_cons_zero, List.set_cons_succ, i64_w, i32_w]
                    rfl
                  refine take_ (i := 76) (N := some 234) (v := ?_) (a' := ?_) #[true, true, true, true, true, true, true, true, true, true, true, true, true, true, true, true, true, true, true, true, true, true, true, true, true, true, true, true, true, true, true, true, true, true, true, true, true, true, true, true, true, true, true, true, true, true, true, true, true, true, true, true, true, true, true, true, true, true, true, true, true, true, true, true, true, true, true, true, true, true, false, true, true, true, true, true, true, false, false, false, false, false, false, false, false, false, false, false, false, false, false, false, false, false, false, false, false, false, false, false, false, false, false, false, false, false, false, false, false, false, false, false, false, false, false] rfl rfl (take_ofW HT_.out HW_.out (by kernel_rfl)) (fun _ _ _ h => h) (Or.inl ⟨by rfl, ?_⟩) hHeld ?_ ?_
                  rotate_left
                  · rintro w' ⟨s0, s1, s2, s3, s4, s5, s6, s7, s8, s9, s10, s11, s12, s13⟩
                    go_simp
                    with_reducible rfl
                  rotate_left
                  · simp only [Act.put, List.setIfInBounds_toArray, List.set_cons_zero, List.set_cons_succ, i64_w, i32_w]
                    rfl
                  refine one_ (i := 70) (N := some 228) #[true, true, true, true, true, true, true, true, true, true, true, true, true, true, true, true, true, true, true, true, true, true, true, true, true, true, true, true, true, true, true, true, true, true, true, true, true, true, true, true, true, true, true, true, true, true, true, true, true, true, true, true, true, true, true, true, true, true, true, true, true, true, true, true, true, true, true, true, true, true, true, true, true, true, true, true, true, false, false, false, false, false, false, false, false, false, false, false, false, false, false, false, false, false, false, false, false, false, false, false, false, false, false, false, false, false, false, false, false, false, false, false, false, false, false] rfl rfl (one_of HT_.out (by kernel_rfl)) (by decide) (fun K hK => ?_)
                  refine goes_ Try.func19 (by kernel_rfl) rfl #[.pointer (some ⟨g, 0, none⟩), .int .i64 n] (by rfl) rfl rfl (by (try simp only [List.map_toArray, List.map_cons, List.map_nil]); first | done | rfl) ?_
                  refine (names_ (some ⟨g, 0, none⟩) (knL [x] (-1) 0) (nmL [x]) n w20 ⟨by rw [nm_len, kn_len], Or.inr ⟨g, rfl, (TT.out.below HT.out)⟩⟩ (by rw [NM.out]; have := N5.out; omega)).mono ?_
                  rintro e w21 ⟨vz, rfl, hr, hb⟩
                  rw [NM.out] at hr
                  obtain ⟨AN, cN, eN⟩ := Kd.R_slice hr
                  subst eN
                  refine ⟨_, rfl, ?_⟩
                  have LN := Aside0.mk (Kd.R_reads' hr).2.1
                  have CNM := Aside0.mk (Kd.R_reads' hr).2.2
                  clear hr
                  have n_ := Aside0.mk (below_step HT.out hb)
                  clear HT
                  have HT := n_
                  clear n_
                  clear hb
                  refine hK.out _ _ (SH.out _ HT.out) (fun hHeld => ?_)
                  clear hK K
                  refine norm_ (a' := ?_) ?_ ?_
                  rotate_left
                  · show Act.put _ (some 228) _ = _
                    simp only [Act.put, List.setIfInBounds_toArray, List.set_cons_zero, List.set_cons_succ, i64_w, i32_w]
                    rfl
                  refine one_ (i := 77) (N := some 235) #[true, true, true, true, true, true, true, true, true, true, true, true, true, true, true, true, true, true, true, true, true, true, true, true, true, true, true, true, true, true, true, true, true, true, true, true, true, true, true, true, true, true, true, true, true, true, true, true, true, true, true, true, true, true, true, true, true, true, true, true, true, true, true, true, true, true, true, true, true, true, true, true, true, true, true, true, true, true, false, false, false, false, false, false, false, false, false, false, false, false, false, false, false, false, false, false, false, false, false, false, false, false, false, false, false, false, false, false, false, false, false, false, false, false, false] rfl rfl (one_of HT_.out (by kernel_rfl)) (by decide) (fun K hK => ?_)
                  refine goes_ Try.func26 (by kernel_rfl) rfl #[.slice AN en.f0.f4.length cN, .slice A44 en.f0.f4.length c44] (by rfl) rfl rfl (by (try simp only [List.map_toArray, List.map_cons, List.map_nil]); first | done | rfl) ?_
                  refine (ints_ en.f0.f4 AN A44 cN c44 w21 (by have := N5.out; omega) CNM.out LN.out (Kd.C_below C44.out HT.out) L44.out).mono ?_
                  rintro e w22 ⟨rfl, hb⟩
                  refine ⟨_, rfl, ?_⟩
                  have n_ := Aside0.mk (below_step HT.out hb)
                  clear HT
                  have HT := n_
                  clear n_
                  clear hb
                  refine hK.out _ _ (SH.out _ HT.out) (fun hHeld => ?_)
                  clear hK K
                  refine norm_ (a' := ?_) ?_ ?_
                  rotate_left
                  · show Act.put _ (some 235) _ = _
                    simp only [Act.put, List.setIfInBounds_toArray, List.set_cons_zero, List.set_cons_succ, i64_w, i32_w]
                    rfl
                  refine pure_ (i := 78) (N := some 236) (v := ?_) (a' := ?_) #[true, true, true, true, true, true, true, true, true, true, true, true, true, true, true, true, true, true, true, true, true, true, true, true, true, true, true, true, true, true, true, true, true, true, true, true, true, true, true, true, true, true, true, true, true, true, true, true, true, true, true, true, true, true, true, true, true, true, true, true, true, true, true, true, true, true, true, true, true, true, true, true, true, true, true, true, true, true, true, false, false, false, false, false, false, false, false, false, false, false, false, false, false, false, false, false, false, false, false, false, false, false, false, false, false, false, false, false, false, false, false, false, false, false, false] rfl rfl (any_of HT_.out (by kernel_rfl)) (fun _ _ _ h => h) (Or.inl ⟨by rfl, ?_⟩) ?_ ?_
                  rotate_left
                  · intro w'
                    go_simp
                    with_reducible rfl
                  rotate_left
                  · simp only [Act.put, List.setIfInBounds_toArray, List.set_cons_zero, List.set_cons_succ, i64_w, i32_w]
                    rfl
                  refine pure_ (i := 79) (N := some 237) (v := ?_) (a' := ?_) #[true, true, true, true, true, true, true, true, true, true, true, true, true, true, true, true, true, true, true, true, true, true, true, true, true, true, true, true, true, true, true, true, true, true, true, true, true, true, true, true, true, true, true, true, true, true, true, true, true, true, true, true, true, true, true, true, true, true, true, true, true, true, true, true, true, true, true, true, true, true, true, true, true, true, true, true, true, true, true, true, false, false, false, false, false, false, false, false, false, false, false, false, false, false, false, false, false, false, false, false, false, false, false, false, false, false, false, false, false, false, false, false, false, false, false] rfl rfl (any_of HT_.out (by kernel_rfl)) (fun _ _ _ h => h) (Or.inl ⟨by rfl, ?_⟩) ?_ ?_
                  rotate_left
                  · intro w'
                    go_simp
                    with_reducible rfl
                  rotate_left
                  · simp only [Act.put, List.setIfInBounds_toArray, List.set_cons_zero, List.set_cons_succ, i64_w, i32_w]
                    rfl
                  refine pure_ (i := 80) (N := some 238) (v := ?_) (a' := ?_) #[true, true, true, true, true, true, true, true, true, true, true, true, true, true, true, true, true, true, true, true, true, true, true, true, true, true, true, true, true, true, true, true, true, true, true, true, true, true, true, true, true, true, true, true, true, true, true, true, true, true, true, true, true, true, true, true, true, true, true, true, true, true, true, true, true, true, true, true, true, true, true, true, true, true, true, true, true, true, true, true, true, false, false, false, false, false, false, false, false, false, false, false, false, false, false, false, false, false, false, false, false, false, false, false, false, false, false, false, false, false, false, false, false, false, false] rfl rfl (any_of HT_.out (by kernel_rfl)) (fun _ _ _ h => h) (Or.inl ⟨by rfl, ?_⟩) ?_ ?_
                  rotate_left
                  · intro w'
                    go_simp
                    with_reducible rfl
                  rotate_left
                  · simp only [Act.put, List.setIfInBounds_toArray, List.set_cons_zero, List.set_cons_succ, i64_w, i32_w]
                    rfl
                  refine pure_ (i := 81) (N := some 239) (v := ?_) (a' := ?_) #[true, true, true, true, true, true, true, true, true, true, true, true, true, true, true, true, true, true, true, true, true, true, true, true, true, true, true, true, true, true, true, true, true, true, true, true, true, true, true, true, true, true, true, true, true, true, true, true, true, true, true, true, true, true, true, true, true, true, true, true, true, true, true, true, true, true, true, true, true, true, true, true, true, true, true, true, true, true, true, true, true, true, false, false, false, false, false, false, false, false, false, false, false, false, false, false, false, false, false, false, false, false, false, false, false, false, false, false, false, false, false, false, false, false, false] rfl rfl (any_of HT_.out (by kernel_rfl)) (fun _ _ _ h => h) (Or.inl ⟨by rfl, ?_⟩) ?_ ?_
                  rotate_left
                  · intro w'
                    go_simp
                    with_reducible rfl
                  rotate_left
                  · simp only [Act.put, List.setIfInBounds_toArray, List.set_cons_zero, List.set_cons_succ, i64_w, i32_w]
                    rfl
                  refine pure_ (i := 83) (N := some 241) (v := ?_) (a' := ?_) #[true, true, true, true, true, true, true, true, true, true, true, true, true, true, true, true, true, true, true, true, true, true, true, true, true, true, true, true, true, true, true, true, true, true, true, true, true, true, true, true, true, true, true, true, true, true, true, true, true, true, true, true, true, true, true, true, true, true, true, true, true, true, true, true, true, true, true, true, true, true, true, true, true, true, true, true, true, true, true, true, true, true, false, true, false, false, false, false, false, false, false, false, false, false, false, false, false, false, false, false, false, false, false, false, false, false, false, false, false, false, false, false, false, false, false] rfl rfl (any_of HT_.out (by kernel_rfl)) (fun _ _ _ h => h) (Or.inl ⟨by rfl, ?_⟩) ?_ ?_
                  rotate_left
                  · intro w'
                    go_simp
                    with_reducible rfl
                  rotate_left
                  · simp only [Act.put, List.setIfInBounds_toArray, List.set_cons_zero, List.set_cons_succ, i64_w, i32_w]
                    rfl
                  refine one_ (i := 82) (N := some 240) #[true, true, true, true, true, true, true, true, true, true, true, true, true, true, true, true, true, true, true, true, true, true, true, true, true, true, true, true, true, true, true, true, true, true, true, true, true, true, true, true, true, true, true, true, true, true, true, true, true, true, true, true, true, true, true, true, true, true, true, true, true, true, true, true, true, true, true, true, true, true, true, true, true, true, true, true, true, true, true, true, true, true, true, true, false, false, false, false, false, false, false, false, false, false, false, false, false, false, false, false, false, false, false, false, false, false, false, false, false, false, false, false, false, false, false] rfl rfl (one_of HT_.out (by kernel_rfl)) (by decide) (fun K hK => ?_)
                  refine goes_ Try.func16 (by kernel_rfl) rfl #[.pointer (some ⟨g, 0, none⟩), .int .i64 n] (by rfl) rfl rfl (by (try simp only [List.map_toArray, List.map_cons, List.map_nil]); first | done | rfl) ?_
                  refine (kids_ (some ⟨g, 0, none⟩) (knL [x] (-1) 0) (nmL [x]) n kl w22 ⟨by rw [nm_len, kn_len], Or.inr ⟨g, rfl, (TT.out.below HT.out)⟩⟩ KL.out (fun _ => CK.out) (fun h => absurd (HH.out.symm.trans h) (by decide))).mono ?_
                  rintro e w23 ⟨vz, rfl, hr, hb⟩
                  obtain ⟨AK, cK, eK⟩ := Kd.R_slice hr
                  subst eK
                  refine ⟨_, rfl, ?_⟩
                  have LK := Aside0.mk (Kd.R_reads' hr).2.1
                  have CKK := Aside0.mk (Kd.R_reads' hr).2.2
                  clear hr
                  have n_ := Aside0.mk (below_step HT.out hb)
                  clear HT
                  have HT := n_
                  clear n_
                  clear hb
                  refine hK.out _ _ (SH.out _ HT.out) (fun hHeld => ?_)
                  clear hK K
                  refine norm_ (a' := ?_) ?_ ?_
                  rotate_left
                  · show Act.put _ (some 240) _ = _
                    simp only [Act.put, List.setIfInBounds_toArray, List.set_cons_zero, List.set_cons_succ, i64_w, i32_w]
                    rfl
                  refine one_ (i := 84) (N := some 242) #[true, true, true, true, true, true, true, true, true, true, true, true, true, true, true, true, true, true, true, true, true, true, true, true, true, true, true, true, true, true, true, true, true, true, true, true, true, true, true, true, true, true, true, true, true, true, true, true, true, true, true, true, true, true, true, true, true, true, true, true, true, true, true, true, true, true, true, true, true, true, true, true, true, true, true, true, true, true, true, true, true, true, true, true, true, false, false, false, false, false, false, false, false, false, false, false, false, false, false, false, false, false, false, false, false, false, false, false, false, false, false, false, false, false, false] rfl rfl (one_of HT_.out (by kernel_rfl)) (by decide) (fun K hK => ?_)
                  refine goes_ Try.func26 (by kernel_rfl) rfl #[.slice AK kl.length cK, .slice A11 kl.length c11] (by rfl) rfl rfl (by (try simp only [List.map_toArray, List.map_cons, List.map_nil]); first | done | rfl) ?_
                  refine (ints_ kl AK A11 cK c11 w23 (by have := KL.out; omega) CKK.out LK.out (Kd.C_below C11.out HT.out) L11.out).mono ?_
                  rintro e w24 ⟨rfl, hb⟩
                  refine ⟨_, rfl, ?_⟩
                  have n_ := Aside0.mk (below_step HT.out hb)
                  clear HT
                  have HT := n_
                  clear n_
                  clear hb
                  refine hK.out _ _ (SH.out _ HT.out) (fun hHeld => ?_)
                  clear hK K
                  refine norm_ (a' := ?_) ?_ ?_
                  rotate_left
                  · show Act.put _ (some 242) _ = _
                    simp only [Act.put, List.setIfInBounds_toArray, List.set_cons_zero, List.set_cons_succ, i64_w, i32_w]
                    rfl
                  refine pure_ (i := 85) (N := some 243) (v := ?_) (a' := ?_) #[true, true, true, true, true, true, true, true, true, true, true, true, true, true, true, true, true, true, true, true, true, true, true, true, true, true, true, true, true, true, true, true, true, true, true, true, true, true, true, true, true, true, true, true, true, true, true, true, true, true, true, true, true, true, true, true, true, true, true, true, true, true, true, true, true, true, true, true, true, true, true, true, true, true, true, true, true, true, true, true, true, true, true, true, true, true, false, false, false, false, false, false, false, false, false, false, false, false, false, false, false, false, false, false, false, false, false, false, false, false, false, false, false, false, false] rfl rfl (any_of HT_.out (by kernel_rfl)) (fun _ _ _ h => h) (Or.inl ⟨by rfl, ?_⟩) ?_ ?_
                  rotate_left
                  · intro w'
                    go_simp
                    with_reducible rfl
                  rotate_left
                  · simp only [Act.put, List.setIfInBounds_toArray, List.set_cons_zero, List.set_cons_succ, i64_w, i32_w]
                    rfl
                  refine pure_ (i := 86) (N := some 244) (v := ?_) (a' := ?_) #[true, true, true, true, true, true, true, true, true, true, true, true, true, true, true, true, true, true, true, true, true, true, true, true, true, true, true, true, true, true, true, true, true, true, true, true, true, true, true, true, true, true, true, true, true, true, true, true, true, true, true, true, true, true, true, true, true, true, true, true, true, true, true, true, true, true, true, true, true, true, true, true, true, true, true, true, true, true, true, true, true, true, true, true, true, true, true, false, false, false, false, false, false, false, false, false, false, false, false, false, false, false, false, false, false, false, false, false, false, false, false, false, false, false, false] rfl rfl (any_of HT_.out (by kernel_rfl)) (fun _ _ _ h => h) (Or.inl ⟨by rfl, ?_⟩) ?_ ?_
                  rotate_left
                  · intro w'
                    go_simp
                    with_reducible rfl
                  rotate_left
                  · simp only [Act.put, List.setIfInBounds_toArray, List.set_cons_zero, List.set_cons_succ, i64_w, i32_w]
                    rfl
                  refine pure_ (i := 87) (N := some 245) (v := ?_) (a' := ?_) #[true, true, true, true, true, true, true, true, true, true, true, true, true, true, true, true, true, true, true, true, true, true, true, true, true, true, true, true, true, true, true, true, true, true, true, true, true, true, true, true, true, true, true, true, true, true, true, true, true, true, true, true, true, true, true, true, true, true, true, true, true, true, true, true, true, true, true, true, true, true, true, true, true, true, true, true, true, true, true, true, true, true, true, true, true, true, true, true, false, false, false, false, false, false, false, false, false, false, false, false, false, false, false, false, false, false, false, false, false, false, false, false, false, false, false] rfl rfl (any_of HT_.out (by kernel_rfl)) (fun _ _ _ h => h) (Or.inl ⟨by rfl, ?_⟩) ?_ ?_
                  rotate_left
                  · intro w'
                    go_simp
                    with_reducible rfl
                  rotate_left
                  · simp only [Act.put, List.setIfInBounds_toArray, List.set_cons_zero, List.set_cons_succ, i64_w, i32_w]
                    rfl
                  refine pure_ (i := 88) (N := some 246) (v := ?_) (a' := ?_) #[true, true, true, true, true, true, true, true, true, true, true, true, true, true, true, true, true, true, true, true, true, true, true, true, true, true, true, true, true, true, true, true, true, true, true, true, true, true, true, true, true, true, true, true, true, true, true, true, true, true, true, true, true, true, true, true, true, true, true, true, true, true, true, true, true, true, true, true, true, true, true, true, true, true, true, true, true, true, true, true, true, true, true, true, true, true, true, true, true, false, false, false, false, false, false, false, false, false, false, false, false, false, false, false, false, false, false, false, false, false, false, false, false, false, false] rfl rfl (any_of HT_.out (by kernel_rfl)) (fun _ _ _ h => h) (Or.inl ⟨by rfl, ?_⟩) ?_ ?_
                  rotate_left
                  · intro w'
                    go_simp
                    with_reducible rfl
                  rotate_left
                  · simp only [Act.put, List.setIfInBounds_toArray, List.set_cons_zero, List.set_cons_succ, i64_w, i32_w]
                    rfl
                  refine pure_ (i := 90) (N := some 248) (v := ?_) (a' := ?_) #[true, true, true, true, true, true, true, true, true, true, true, true, true, true, true, true, true, true, true, true, true, true, true, true, true, true, true, true, true, true, true, true, true, true, true, true, true, true, true, true, true, true, true, true, true, true, true, true, true, true, true, true, true, true, true, true, true, true, true, true, true, true, true, true, true, true, true, true, true, true, true, true, true, true, true, true, true, true, true, true, true, true, true, true, true, true, true, true, true, false, true, false, false, false, false, false, false, false, false, false, false, false, false, false, false, false, false, false, false, false, false, false, false, false, false] rfl rfl (any_of HT_.out (by kernel_rfl)) (fun _ _ _ h => h) (Or.inl ⟨by rfl, ?_⟩) ?_ ?_
                  rotate_left
                  · intro w'
                    go_simp
                    with_reducible rfl
                  rotate_left
                  · simp only [Act.put, List.setIfInBounds_toArray, List.set_cons_zero, List.set_cons_succ, i64_w, i32_w]
                    rfl
                  refine pure_ (i := 91) (N := some 249) (v := ?_) (a' := ?_) #[true, true, true, true, true, true, true, true, true, true, true, true, true, true, true, true, true, true, true, true, true, true, true, true, true, true, true, true, true, true, true, true, true, true, true, true, true, true, true, true, true, true, true, true, true, true, true, true, true, true, true, true, true, true, true, true, true, true, true, true, true, true, true, true, true, true, true, true, true, true, true, true, true, true, true, true, true, true, true, true, true, true, true, true, true, true, true, true, true, false, true, true, false, false, false, false, false, false, false, false, false, false, false, false, false, false, false, false, false, false, false, false, false, false, false] rfl rfl (any_of HT_.out (by kernel_rfl)) (fun _ _ _ h => h) (Or.inl ⟨by rfl, ?_⟩) ?_ ?_
                  rotate_left
                  · intro w'
                    go_simp
                    with_reducible rfl
                  rotate_left
                  · simp only [Act.put, List.setIfInBounds_toArray, List.set_cons_zero, List.set_cons_succ, i64_w, i32_w]
                    rfl
                  refine pure_ (i := 92) (N := some 250) (v := ?_) (a' := ?_) #[true, true, true, true, true, true, true, true, true, true, true, true, true, true, true, true, true, true, true, true, true, true, true, true, true, true, true, true, true, true, true, true, true, true, true, true, true, true, true, true, true, true, true, true, true, true, true, true, true, true, true, true, true, true, true, true, true, true, true, true, true, true, true, true, true, true, true, true, true, true, true, true, true, true, true, true, true, true, true, true, true, true, true, true, true, true, true, true, true, false, true, true, true, false, false, false, false, false, false, false, false, false, false, false, false, false, false, false, false, false, false, false, false, false, false] rfl rfl (any_of HT_.out (by kernel_rfl)) (fun _ _ _ h => h) (Or.inl ⟨by rfl, ?_⟩) ?_ ?_
                  rotate_left
                  · intro w'
                    go_simp
                    with_reducible rfl
                  rotate_left
                  · simp only [Act.put, List.setIfInBounds_toArray, List.set_cons_zero, List.set_cons_succ, i64_w, i32_w]
                    rfl
                  refine pure_ (i := 93) (N := some 251) (v := ?_) (a' := ?_) #[true, true, true, true, true, true, true, true, true, true, true, true, true, true, true, true, true, true, true, true, true, true, true, true, true, true, true, true, true, true, true, true, true, true, true, true, true, true, true, true, true, true, true, true, true, true, true, true, true, true, true, true, true, true, true, true, true, true, true, true, true, true, true, true, true, true, true, true, true, true, true, true, true, true, true, true, true, true, true, true, true, true, true, true, true, true, true, true, true, false, true, true, true, true, false, false, false, false, false, false, false, false, false, false, false, false, false, false, false, false, false, false, false, false, false] rfl rfl (any_of HT_.out (by kernel_rfl)) (fun _ _ _ h => h) (Or.inl ⟨by rfl, ?_⟩) ?_ ?_
                  rotate_left
                  · intro w'
                    go_simp
                    with_reducible rfl
                  rotate_left
                  · simp only [Act.put, List.setIfInBounds_toArray, List.set_cons_zero, List.set_cons_succ, i64_w, i32_w]
                    rfl
                  refine take_ (i := 94) (N := some 252) (v := ?_) (a' := ?_) #[true, true, true, true, true, true, true, true, true, true, true, true, true, true, true, true, true, true, true, true, true, true, true, true, true, true, true, true, true, true, true, true, true, true, true, true, true, true, true, true, true, true, true, true, true, true, true, true, true, true, true, true, true, true, true, true, true, true, true, true, true, true, true, true, true, true, true, true, true, true, true, true, true, true, true, true, true, true, true, true, true, true, true, true, true, true, true, true, true, false, true, true, true, true, true, false, false, false, false, false, false, false, false, false, false, false, false, false, false, false, false, false, false, false, false] rfl rfl (take_ofW HT_.out HW_.out (by kernel_rfl)) (fun _ _ _ h => h) (Or.inl ⟨by rfl, ?_⟩) hHeld ?_ ?_
                  rotate_left
                  · rintro w' ⟨s0, s1, s2, s3, s4, s5, s6, s7, s8, s9, s10, s11, s12, s13⟩
                    go_simp
                    with_reducible rfl
                  rotate_left
                  · simp only [Act.put, List.setIfInBounds_toArray, List.set_cons_zero, List.set_cons_succ, i64_w, i32_w]
                    rfl
                  refine one_ (i := 89) (N := some 247) #[true, true, true, true, true, true, true, true, true, true, true, true, true, true, true, true, true, true, true, true, true, true, true, true, true, true, true, true, true, true, true, true, true, true, true, true, true, true, true, true, true, true, true, true, true, true, true, true, true, true, true, true, true, true, true, true, true, true, true, true, true, true, true, true, true, true, true, true, true, true, true, true, true, true, true, true, true, true, true, true, true, true, true, true, true, true, true, true, true, true, true, true, true, true, true, false, false, false, false, false, false, false, false, false, false, false, false, false, false, false, false, false, false, false, false] rfl rfl (one_of HT_.out (by kernel_rfl)) (by decide) (fun K hK => ?_)
                  refine goes_ Try.func20 (by kernel_rfl) rfl #[.pointer (some ⟨g, 0, none⟩), .int .i64 n] (by rfl) rfl rfl (by (try simp only [List.map_toArray, List.map_cons, List.map_nil]); first | done | rfl) ?_
                  refine (deep_ (some ⟨g, 0, none⟩) (knL [x] (-1) 0) (nmL [x]) n pl w24 ⟨by rw [nm_len, kn_len], Or.inr ⟨g, rfl, (TT.out.below HT.out)⟩⟩ PL.out PK.out).mono ?_
                  rintro e w25 ⟨rfl, hb⟩
                  rw [PE.out]
                  refine ⟨_, rfl, ?_⟩
                  have n_ := Aside0.mk (below_step HT.out hb)
                  clear HT
                  have HT := n_
                  clear n_
                  clear hb
                  refine hK.out _ _ (SH.out _ HT.out) (fun hHeld => ?_)
                  clear hK K
                  refine norm_ (a' := ?_) ?_ ?_
                  rotate_left
                  · show Act.put _ (some 247) _ = _
                    simp only [Act.put, List.setIfInBounds_toArray, List.set_cons_zero, List.set_cons_succ, i64_w, i32_w]
                    rfl
                  refine pure_ (i := 95) (N := some 253) (v := ?_) (a' := ?_) #[true, true, true, true, true, true, true, true, true, true, true, true, true, true, true, true, true, true, true, true, true, true, true, true, true, true, true, true, true, true, true, true, true, true, true, true, true, true, true, true, true, true, true, true, true, true, true, true, true, true, true, true, true, true, true, true, true, true, true, true, true, true, true, true, true, true, true, true, true, true, true, true, true, true, true, true, true, true, true, true, true, true, true, true, true, true, true, true, true, true, true, true, true, true, true, true, false, false, false, false, false, false, false, false, false, false, false, false, false, false, false, false, false, false, false] rfl rfl (any_of HT_.out (by kernel_rfl)) (fun _ _ _ h => h) (Or.inl ⟨by rfl, ?_⟩) ?_ ?_
                  rotate_left
                  · intro w'
                    go_simp
                    with_reducible rfl
                  rotate_left
                  · simp only [Act.put, List.setIfInBounds_toArray, List.set_cons_zero, List.set_cons_succ, i64_w, i32_w]
                    rfl
                  refine pure_ (i := 96) (N := some 254) (v := ?_) (a' := ?_) #[true, true, true, true, true, true, true, true, true, true, true, true, true, true, true, true, true, true, true, true, true, true, true, true, true, true, true, true, true, true, true, true, true, true, true, true, true, true, true, true, true, true, true, true, true, true, true, true, true, true, true, true, true, true, true, true, true, true, true, true, true, true, true, true, true, true, true, true, true, true, true, true, true, true, true, true, true, true, true, true, true, true, true, true, true, true, true, true, true, true, true, true, true, true, true, true, true, false, false, false, false, false, false, false, false, false, false, false, false, false, false, false, false, false, false] rfl rfl (any_of HT_.out (by kernel_rfl)) (fun _ _ _ h => h) (Or.inl ⟨by rfl, ?_⟩) ?_ ?_
                  rotate_left
                  · intro w'
                    go_simp
                    with_reducible rfl
                  rotate_left
                  · simp only [Act.put, List.setIfInBounds_toArray, List.set_cons_zero, List.set_cons_succ, i64_w, i32_w]
                    rfl
                  refine pure_ (i := 97) (N := some 255) (v := ?_) (a' := ?_) #[true, true, true, true, true, true, true, true, true, true, true, true, true, true, true, true, true, true, true, true, true, true, true, true, true, true, true, true, true, true, true, true, true, true, true, true, true, true, true, true, true, true, true, true, true, true, true, true, true, true, true, true, true, true, true, true, true, true, true, true, true, true, true, true, true, true, true, true, true, true, true, true, true, true, true, true, true, true, true, true, true, true, true, true, true, true, true, true, true, true, true, true, true, true, true, true, true, true, false, false, false, false, false, false, false, false, false, false, false, false, false, false, false, false, false] rfl rfl (any_of HT_.out (by kernel_rfl)) (fun _ _ _ h => h) (Or.inl ⟨by rfl, ?_⟩) ?_ ?_
                  rotate_left
                  · intro w'
                    go_simp
                    with_reducible rfl
                  rotate_left
                  · simp only [Act.put, List.setIfInBounds_toArray, List.set_cons_zero, List.set_cons_succ, i64_w, i32_w]
                    rfl
                  refine pure_ (i := 98) (N := some 256) (v := ?_) (a' := ?_) #[true, true, true, true, true, true, true, true, true, true, true, true, true, true, true, true, true, true, true, true, true, true, true, true, true, true, true, true, true, true, true, true, true, true, true, true, true, true, true, true, true, true, true, true, true, true, true, true, true, true, true, true, true, true, true, true, true, true, true, true, true, true, true, true, true, true, true, true, true, true, true, true, true, true, true, true, true, true, true, true, true, true, true, true, true, true, true, true, true, true, true, true, true, true, true, true, true, true, true, false, false, false, false, false, false, false, false, false, false, false, false, false, false, false, false] rfl rfl (any_of HT_.out (by kernel_rfl)) (fun _ _ _ h => h) (Or.inl ⟨by rfl, ?_⟩) ?_ ?_
                  rotate_left
                  · intro w'
                    go_simp
                    with_reducible rfl
                  rotate_left
                  · simp only [Act.put, List.setIfInBounds_toArray, List.set_cons_zero, List.set_cons_succ, i64_w, i32_w]
                    rfl
                  refine pure_ (i := 99) (N := some 257) (v := ?_) (a' := ?_) #[true, true, true, true, true, true, true, true, true, true, true, true, true, true, true, true, true, true, true, true, true, true, true, true, true, true, true, true, true, true, true, true, true, true, true, true, true, true, true, true, true, true, true, true, true, true, true, true, true, true, true, true, true, true, true, true, true, true, true, true, true, true, true, true, true, true, true, true, true, true, true, true, true, true, true, true, true, true, true, true, true, true, true, true, true, true, true, true, true, true, true, true, true, true, true, true, true, true, true, true, false, false, false, false, false, false, false, false, false, false, false, false, false, false, false] rfl rfl (any_of HT_.out (by kernel_rfl)) (fun _ _ _ h => h) (Or.inl ⟨by rfl, ?_⟩) ?_ ?_
                  rotate_left
                  · intro w'
                    go_simp
                    with_reducible rfl
                  rotate_left
                  · simp only [Act.put, List.setIfInBounds_toArray, List.set_cons_zero, List.set_cons_succ, i64_w, i32_w]
                    rfl
                  refine pure_ (i := 101) (N := some 259) (v := ?_) (a' := ?_) #[true, true, true, true, true, true, true, true, true, true, true, true, true, true, true, true, true, true, true, true, true, true, true, true, true, true, true, true, true, true, true, true, true, true, true, true, true, true, true, true, true, true, true, true, true, true, true, true, true, true, true, true, true, true, true, true, true, true, true, true, true, true, true, true, true, true, true, true, true, true, true, true, true, true, true, true, true, true, true, true, true, true, true, true, true, true, true, true, true, true, true, true, true, true, true, true, true, true, true, true, false, true, false, false, false, false, false, false, false, false, false, false, false, false, false] rfl rfl (any_of HT_.out (by kernel_rfl)) (fun _ _ _ h => h) (Or.inl ⟨by rfl, ?_⟩) ?_ ?_
                  rotate_left
                  · intro w'
                    go_simp
                    with_reducible rfl
                  rotate_left
                  · simp only [Act.put, List.setIfInBounds_toArray, List.set_cons_zero, List.set_cons_succ, i64_w, i32_w]
                    rfl
                  refine one_ (i := 100) (N := some 258) #[true, true, true, true, true, true, true, true, true, true, true, true, true, true, true, true, true, true, true, true, true, true, true, true, true, true, true, true, true, true, true, true, true, true, true, true, true, true, true, true, true, true, true, true, true, true, true, true, true, true, true, true, true, true, true, true, true, true, true, true, true, true, true, true, true, true, true, true, true, true, true, true, true, true, true, true, true, true, true, true, true, true, true, true, true, true, true, true, true, true, true, true, true, true, true, true, true, true, true, true, true, true, false, false, false, false, false, false, false, false, false, false, false, false, false] rfl rfl (one_of HT_.out (by kernel_rfl)) (by decide) (fun K hK => ?_)
                  refine goes_ Try.func18 (by kernel_rfl) rfl #[.pointer (some ⟨g, 0, none⟩), .int .i64 n] (by rfl) rfl rfl (by (try simp only [List.map_toArray, List.map_cons, List.map_nil]); first | done | rfl) ?_
                  refine (walk_ (some ⟨g, 0, none⟩) (knL [x] (-1) 0) (nmL [x]) n (rng m s_) w25 ⟨by rw [nm_len, kn_len], Or.inr ⟨g, rfl, (TT.out.below HT.out)⟩⟩ WL.out (fun _ => WK.out) (fun h => absurd (HH.out.symm.trans h) (by decide))).mono ?_
                  rintro e w26 ⟨vz, rfl, hr, hb⟩
                  obtain ⟨AW, cW, eW⟩ := Kd.R_slice hr
                  subst eW
                  refine ⟨_, rfl, ?_⟩
                  have LW := Aside0.mk (Kd.R_reads' hr).2.1
                  have CWW := Aside0.mk (Kd.R_reads' hr).2.2
                  clear hr
                  have n_ := Aside0.mk (below_step HT.out hb)
                  clear HT
                  have HT := n_
                  clear n_
                  clear hb
                  refine hK.out _ _ (SH.out _ HT.out) (fun hHeld => ?_)
                  clear hK K
                  refine norm_ (a' := ?_) ?_ ?_
                  rotate_left
                  · show Act.put _ (some 258) _ = _
                    simp only [Act.put, List.setIfInBounds_toArray, List.set_cons_zero, List.set_cons_succ, i64_w, i32_w]
                    rfl
                  refine one_ (i := 102) (N := some 260) #[true, true, true, true, true, true, true, true, true, true, true, true, true, true, true, true, true, true, true, true, true, true, true, true, true, true, true, true, true, true, true, true, true, true, true, true, true, true, true, true, true, true, true, true, true, true, true, true, true, true, true, true, true, true, true, true, true, true, true, true, true, true, true, true, true, true, true, true, true, true, true, true, true, true, true, true, true, true, true, true, true, true, true, true, true, true, true, true, true, true, true, true, true, true, true, true, true, true, true, true, true, true, true, false, false, false, false, false, false, false, false, false, false, false, false] rfl rfl (one_of HT_.out (by kernel_rfl)) (by decide) (fun K hK => ?_)
                  refine goes_ Try.func26 (by kernel_rfl) rfl #[.slice AW (rng m s_).length cW, .slice A16 (rng m s_).length c16] (by rfl) rfl rfl (by (try simp only [List.map_toArray, List.map_cons, List.map_nil]); first | done | rfl) ?_
                  refine (ints_ (rng m s_) AW A16 cW c16 w26 (by have := WL.out; omega) CWW.out LW.out (Kd.C_below C16.out HT.out) L16.out).mono ?_
                  rintro e w27 ⟨rfl, hb⟩
                  refine ⟨_, rfl, ?_⟩
                  have n_ := Aside0.mk (below_step HT.out hb)
                  clear HT
                  have HT := n_
                  clear n_
                  clear hb
                  refine hK.out _ _ (SH.out _ HT.out) (fun hHeld => ?_)
                  clear hK K
                  refine norm_ (a' := ?_) ?_ ?_
                  rotate_left
                  · show Act.put _ (some 260) _ = _
                    simp only [Act.put, List.setIfInBounds_toArray, List.set_cons_zero, List.set_cons_succ, i64_w, i32_w]
                    rfl
                  refine pure_ (i := 103) (N := some 261) (v := ?_) (a' := ?_) #[true, true, true, true, true, true, true, true, true, true, true, true, true, true, true, true, true, true, true, true, true, true, true, true, true, true, true, true, true, true, true, true, true, true, true, true, true, true, true, true, true, true, true, true, true, true, true, true, true, true, true, true, true, true, true, true, true, true, true, true, true, true, true, true, true, true, true, true, true, true, true, true, true, true, true, true, true, true, true, true, true, true, true, true, true, true, true, true, true, true, true, true, true, true, true, true, true, true, true, true, true, true, true, true, false, false, false, false, false, false, false, false, false, false, false] rfl rfl (any_of HT_.out (by kernel_rfl)) (fun _ _ _ h => h) (Or.inl ⟨by rfl, ?_⟩) ?_ ?_
                  rotate_left
                  · intro w'
                    go_simp
                    with_reducible rfl
                  rotate_left
                  · simp only [Act.put, List.setIfInBounds_toArray, List.set_cons_zero, List.set_cons_succ, i64_w, i32_w]
                    rfl
                  refine pure_ (i := 104) (N := some 262) (v := ?_) (a' := ?_) #[true, true, true, true, true, true, true, true, true, true, true, true, true, true, true, true, true, true, true, true, true, true, true, true, true, true, true, true, true, true, true, true, true, true, true, true, true, true, true, true, true, true, true, true, true, true, true, true, true, true, true, true, true, true, true, true, true, true, true, true, true, true, true, true, true, true, true, true, true, true, true, true, true, true, true, true, true, true, true, true, true, true, true, true, true, true, true, true, true, true, true, true, true, true, true, true, true, true, true, true, true, true, true, true, true, false, false, false, false, false, false, false, false, false, false] rfl rfl (any_of HT_.out (by kernel_rfl)) (fun _ _ _ h => h) (Or.inl ⟨by rfl, ?_⟩) ?_ ?_
                  rotate_left
                  · intro w'
                    go_simp
                    with_reducible rfl
                  rotate_left
                  · simp only [Act.put, List.setIfInBounds_toArray, List.set_cons_zero, List.set_cons_succ, i64_w, i32_w]
                    rfl
                  refine pure_ (i := 105) (N := some 263) (v := ?_) (a' := ?_) #[true, true, true, true, true, true, true, true, true, true, true, true, true, true, true, true, true, true, true, true, true, true, true, true, true, true, true, true, true, true, true, true, true, true, true, true, true, true, true, true, true, true, true, true, true, true, true, true, true, true, true, true, true, true, true, true, true, true, true, true, true, true, true, true, true, true, true, true, true, true, true, true, true, true, true, true, true, true, true, true, true, true, true, true, true, true, true, true, true, true, true, true, true, true, true, true, true, true, true, true, true, true, true, true, true, true, false, false, false, false, false, false, false, false, false] rfl rfl (any_of HT_.out (by kernel_rfl)) (fun _ _ _ h => h) (Or.inl ⟨by rfl, ?_⟩) ?_ ?_
                  rotate_left
                  · intro w'
                    go_simp
                    with_reducible rfl
                  rotate_left
                  · simp only [Act.put, List.setIfInBounds_toArray, List.set_cons_zero, List.set_cons_succ, i64_w, i32_w]
                    rfl
                  refine pure_ (i := 106) (N := some 264) (v := ?_) (a' := ?_) #[true, true, true, true, true, true, true, true, true, true, true, true, true, true, true, true, true, true, true, true, true, true, true, true, true, true, true, true, true, true, true, true, true, true, true, true, true, true, true, true, true, true, true, true, true, true, true, true, true, true, true, true, true, true, true, true, true, true, true, true, true, true, true, true, true, true, true, true, true, true, true, true, true, true, true, true, true, true, true, true, true, true, true, true, true, true, true, true, true, true, true, true, true, true, true, true, true, true, true, true, true, true, true, true, true, true, true, false, false, false, false, false, false, false, false] rfl rfl (any_of HT_.out (by kernel_rfl)) (fun _ _ _ h => h) (Or.inl ⟨by rfl, ?_⟩) ?_ ?_
                  rotate_left
                  · intro w'
                    go_simp
                    with_reducible rfl
                  rotate_left
                  · simp only [Act.put, List.setIfInBounds_toArray, List.set_cons_zero, List.set_cons_succ, i64_w, i32_w]
                    rfl
                  refine pure_ (i := 108) (N := some 266) (v := ?_) (a' := ?_) #[true, true, true, true, true, true, true, true, true, true, true, true, true, true, true, true, true, true, true, true, true, true, true, true, true, true, true, true, true, true, true, true, true, true, true, true, true, true, true, true, true, true, true, true, true, true, true, true, true, true, true, true, true, true, true, true, true, true, true, true, true, true, true, true, true, true, true, true, true, true, true, true, true, true, true, true, true, true, true, true, true, true, true, true, true, true, true, true, true, true, true, true, true, true, true, true, true, true, true, true, true, true, true, true, true, true, true, false, true, false, false, false, false, false, false] rfl rfl (any_of HT_.out (by kernel_rfl)) (fun _ _ _ h => h) (Or.inl ⟨by rfl, ?_⟩) ?_ ?_
                  rotate_left
                  · intro w'
                    go_simp
                    with_reducible rfl
                  rotate_left
                  · simp only [Act.put, List.setIfInBounds_toArray, List.set_cons_zero, List.set_cons_succ, i64_w, i32_w]
                    rfl
                  refine one_ (i := 107) (N := some 265) #[true, true, true, true, true, true, true, true, true, true, true, true, true, true, true, true, true, true, true, true, true, true, true, true, true, true, true, true, true, true, true, true, true, true, true, true, true, true, true, true, true, true, true, true, true, true, true, true, true, true, true, true, true, true, true, true, true, true, true, true, true, true, true, true, true, true, true, true, true, true, true, true, true, true, true, true, true, true, true, true, true, true, true, true, true, true, true, true, true, true, true, true, true, true, true, true, true, true, true, true, true, true, true, true, true, true, true, true, true, false, false, false, false, false, false] rfl rfl (one_of HT_.out (by kernel_rfl)) (by decide) (fun K hK => ?_)
                  refine goes_ Try.func21 (by kernel_rfl) rfl #[.pointer (some ⟨g, 0, none⟩), .int .i64 n] (by rfl) rfl rfl (by (try simp only [List.map_toArray, List.map_cons, List.map_nil]); first | done | rfl) ?_
                  refine (path_ (some ⟨g, 0, none⟩) (knL [x] (-1) 0) (nmL [x]) n pl w27 ⟨by rw [nm_len, kn_len], Or.inr ⟨g, rfl, (TT.out.below HT.out)⟩⟩ PL.out PK.out).mono ?_
                  rintro e w28 ⟨vz, rfl, hr, hb⟩
                  obtain ⟨AP, cP, eP⟩ := Kd.R_slice hr
                  subst eP
                  refine ⟨_, rfl, ?_⟩
                  have LP := Aside0.mk (Kd.R_reads' hr).2.1
                  have CPP := Aside0.mk (Kd.R_reads' hr).2.2
                  clear hr
                  have n_ := Aside0.mk (below_step HT.out hb)
                  clear HT
                  have HT := n_
                  clear n_
                  clear hb
                  refine hK.out _ _ (SH.out _ HT.out) (fun hHeld => ?_)
                  clear hK K
                  refine norm_ (a' := ?_) ?_ ?_
                  rotate_left
                  · show Act.put _ (some 265) _ = _
                    simp only [Act.put, List.setIfInBounds_toArray, List.set_cons_zero, List.set_cons_succ, i64_w, i32_w]
                    rfl
                  refine one_ (i := 109) (N := some 267) #[true, true, true, true, true, true, true, true, true, true, true, true, true, true, true, true, true, true, true, true, true, true, true, true, true, true, true, true, true, true, true, true, true, true, true, true, true, true, true, true, true, true, true, true, true, true, true, true, true, true, true, true, true, true, true, true, true, true, true, true, true, true, true, true, true, true, true, true, true, true, true, true, true, true, true, true, true, true, true, true, true, true, true, true, true, true, true, true, true, true, true, true, true, true, true, true, true, true, true, true, true, true, true, true, true, true, true, true, true, true, false, false, false, false, false] rfl rfl (one_of HT_.out (by kernel_rfl)) (by decide) (fun K hK => ?_)
                  refine goes_ Try.func26 (by kernel_rfl) rfl #[.slice AP pl.length cP, .slice A17 pl.length c17] (by rfl) rfl rfl (by (try simp only [List.map_toArray, List.map_cons, List.map_nil]); first | done | rfl) ?_
                  refine (ints_ pl AP A17 cP c17 w28 (by have := PL.out; omega) CPP.out LP.out (Kd.C_below C17.out HT.out) L17.out).mono ?_
                  rintro e w29 ⟨rfl, hb⟩
                  refine ⟨_, rfl, ?_⟩
                  have n_ := Aside0.mk (below_step HT.out hb)
                  clear HT
                  have HT := n_
                  clear n_
                  clear hb
                  refine hK.out _ _ (SH.out _ HT.out) (fun hHeld => ?_)
                  clear hK K
                  refine norm_ (a' := ?_) ?_ ?_
                  rotate_left
                  · show Act.put _ (some 267) _ = _
                    simp only [Act.put, List.setIfInBounds_toArray, List.set_cons_zero, List.set_cons_succ, i64_w, i32_w]
                    rfl
                  refine pure_ (i := 110) (N := some 268) (v := ?_) (a' := ?_) #[true, true, true, true, true, true, true, true, true, true, true, true, true, true, true, true, true, true, true, true, true, true, true, true, true, true, true, true, true, true, true, true, true, true, true, true, true, true, true, true, true, true, true, true, true, true, true, true, true, true, true, true, true, true, true, true, true, true, true, true, true, true, true, true, true, true, true, true, true, true, true, true, true, true, true, true, true, true, true, true, true, true, true, true, true, true, true, true, true, true, true, true, true, true, true, true, true, true, true, true, true, true, true, true, true, true, true, true, true, true, true, false, false, false, false] rfl rfl (any_of HT_.out (by kernel_rfl)) (fun _ _ _ h => h) (Or.inl ⟨by rfl, ?_⟩) ?_ ?_
                  rotate_left
                  · intro w'
                    go_simp
                    with_reducible rfl
                  rotate_left
                  · simp only [Act.put, List.setIfInBounds_toArray, List.set_cons_zero, List.set_cons_succ, i64_w, i32_w]
                    rfl
                  refine pure_ (i := 111) (N := some 269) (v := ?_) (a' := ?_) #[true, true, true, true, true, true, true, true, true, true, true, true, true, true, true, true, true, true, true, true, true, true, true, true, true, true, true, true, true, true, true, true, true, true, true, true, true, true, true, true, true, true, true, true, true, true, true, true, true, true, true, true, true, true, true, true, true, true, true, true, true, true, true, true, true, true, true, true, true, true, true, true, true, true, true, true, true, true, true, true, true, true, true, true, true, true, true, true, true, true, true, true, true, true, true, true, true, true, true, true, true, true, true, true, true, true, true, true, true, true, true, true, false, false, false] rfl rfl (any_of HT_.out (by kernel_rfl)) (fun _ _ _ h => h) (Or.inl ⟨by rfl, ?_⟩) ?_ ?_
                  rotate_left
                  · intro w'
                    go_simp
                    with_reducible rfl
                  rotate_left
                  · simp only [Act.put, List.setIfInBounds_toArray, List.set_cons_zero, List.set_cons_succ, i64_w, i32_w]
                    rfl
                  refine one_ (i := 112) (N := some 270) #[true, true, true, true, true, true, true, true, true, true, true, true, true, true, true, true, true, true, true, true, true, true, true, true, true, true, true, true, true, true, true, true, true, true, true, true, true, true, true, true, true, true, true, true, true, true, true, true, true, true, true, true, true, true, true, true, true, true, true, true, true, true, true, true, true, true, true, true, true, true, true, true, true, true, true, true, true, true, true, true, true, true, true, true, true, true, true, true, true, true, true, true, true, true, true, true, true, true, true, true, true, true, true, true, true, true, true, true, true, true, true, true, true, false, false] rfl rfl (one_of HT_.out (by kernel_rfl)) (by decide) (fun K hK => ?_)
                  refine goes_ Try.func13 (by kernel_rfl) rfl #[] (by rfl) rfl rfl (by (try simp only [List.map_toArray, List.map_cons, List.map_nil]); first | done | rfl) ?_
                  refine (alive w29).mono ?_
                  rintro e w30 ⟨rfl, hb⟩
                  refine ⟨_, rfl, ?_⟩
                  have n_ := Aside0.mk (below_step HT.out hb)
                  clear HT
                  have HT := n_
                  clear n_
                  clear hb
                  refine hK.out _ _ (SH.out _ HT.out) (fun hHeld => ?_)
                  clear hK K
                  refine norm_ (a' := ?_) ?_ ?_
                  rotate_left
                  · show Act.put _ (some 270) _ = _
                    simp only [Act.put, List.setIfInBounds_toArray, List.set_cons_zero, List.set_cons_succ, i64_w, i32_w]
                    rfl
                  refine pure_ (i := 113) (N := some 271) (v := ?_) (a' := ?_) #[true, true, true, true, true, true, true, true, true, true, true, true, true, true, true, true, true, true, true, true, true, true, true, true, true, true, true, true, true, true, true, true, true, true, true, true, true, true, true, true, true, true, true, true, true, true, true, true, true, true, true, true, true, true, true, true, true, true, true, true, true, true, true, true, true, true, true, true, true, true, true, true, true, true, true, true, true, true, true, true, true, true, true, true, true, true, true, true, true, true, true, true, true, true, true, true, true, true, true, true, true, true, true, true, true, true, true, true, true, true, true, true, true, true, false] rfl rfl (any_of HT_.out (by kernel_rfl)) (fun _ _ _ h => h) (Or.inl ⟨by rfl, ?_⟩) ?_ ?_
                  rotate_left
                  · intro w'
                    go_simp
                    with_reducible rfl
                  rotate_left
                  · simp only [Act.put, List.setIfInBounds_toArray, List.set_cons_zero, List.set_cons_succ, i64_w, i32_w]
                    rfl
                  refine pure_ (i := 114) (N := some 4) (v := ?_) (a' := ?_) #[true, true, true, true, true, true, true, true, true, true, true, true, true, true, true, true, true, true, true, true, true, true, true, true, true, true, true, true, true, true, true, true, true, true, true, true, true, true, true, true, true, true, true, true, true, true, true, true, true, true, true, true, true, true, true, true, true, true, true, true, true, true, true, true, true, true, true, true, true, true, true, true, true, true, true, true, true, true, true, true, true, true, true, true, true, true, true, true, true, true, true, true, true, true, true, true, true, true, true, true, true, true, true, true, true, true, true, true, true, true, true, true, true, true, true] rfl rfl (any_of HT_.out (by kernel_rfl)) (fun _ _ _ h => h) (Or.inl ⟨by rfl, ?_⟩) ?_ ?_
                  rotate_left
                  · intro w'
                    go_simp
                    with_reducible rfl
                  rotate_left
                  · simp only [Act.put, List.setIfInBounds_toArray, List.set_cons_zero, List.set_cons_succ, i64_w, i32_w]
                    rfl
                  refine done_ (done_of HT_.out (by kernel_rfl)) ?_
                  go_wp2
                  go_ret
                  exact ⟨rfl, below_step HM.out HT.out⟩
set_option maxHeartbeats 8000000 in
set_option maxRecDepth 100000 in
theorem lawOut (x : S25) (n : Int) (A4 A5 : Option Addr) (c4 c5 : Nat) (w : World) (h4 : Kd.C (Kd.int .i64) w A4 x.f4.length x.f4) (l4 : x.f4.length ≤ c4) (h5 : Kd.C k25 w A5 x.f5.length x.f5) (l5 : x.f5.length ≤ c5) (hf : fewB x = true) (cn : ¬ (0 ≤ n ∧ n < ((rwL [x] (-1) 1 0).length : Int))) :
    Calls Try.prog 5 #[.agg #[.int .i64 x.f0, .int .i64 x.f1, .int .i64 x.f2, .int .i64 x.f3, .slice A4 x.f4.length c4, .slice A5 x.f5.length c5], .int .i64 n] w fun e w' => e = .returned (.bool true) ∧ Below w.heap.size w w' := by
  have HM := Aside0.mk (Below.refl w.heap.size w)
  have H4 := Aside0.mk h4
  have H5 := Aside0.mk h5
  have L4 := Aside0.mk l4
  have L5 := Aside0.mk l5
  clear h4 h5 l4 l5
  have EF := Aside0.mk hf
  clear hf
  have FF := Aside0.mk (fewB_t EF.out)
  have EL : Aside0 ((knL [x] (-1) 0).length = (rwL [x] (-1) 1 0).length) := ⟨(kn_len _ _ _).trans (rw_len _ _ _ _).symm⟩
  have LR : Aside0 ((rwL [x] (-1) 1 0).length = szL [x]) := ⟨rw_len _ _ _ _⟩
  have SG := Aside0.mk (Seg.whole x)
  go_enter Try.func5, Try.ntmps5
  go_upto_region 5 with (first | ((with_reducible refine gate_dst (N := 2) rfl ?_); refine box_event ?hg (N := 2) ?hd (cs := #[.int .i64 x.f0, .int .i64 x.f1, .int .i64 x.f2, .int .i64 x.f3, .slice A4 x.f4.length c4, .slice A5 x.f5.length c5]) (t := 25) ?hr ?_; (case hd => rfl); (case hg => rfl); (case hr => first | (go_simp; done) | (go_simp; rfl)); intro gb hg w1 hbox hb; have BX := Aside0.mk hbox; have n_ := Aside0.mk (Kd.C_below H4.out hb); clear H4; have H4 := n_; clear n_; have n_ := Aside0.mk (Kd.C_below H5.out hb); clear H5; have H5 := n_; clear n_; have n_ := Aside0.mk (below_step (by repeat (first | (with_reducible first | exact HM.out | apply below_alloc | apply pw_below_drewN | apply below_drew1) | exact HM.out)) hb); clear HM; have HM := n_; clear n_; clear hb hbox hg; (try clear y0 y1 y2 y3 y4 y5); obtain ⟨y0, y1, y2, y3, y4, y5⟩ := held6 BX.out) | (go_at_call 8; refine (few_ x A4 A5 c4 c5 _ H4.out L4.out H5.out L5.out).mono ?_; rintro e w9 ⟨rfl, hb⟩; rw [EF.out]; have n_ := Aside0.mk (Kd.C_below H4.out hb); clear H4; have H4 := n_; clear n_; have n_ := Aside0.mk (Kd.C_below H5.out hb); clear H5; have H5 := n_; clear n_; have n_ := Aside0.mk (blk_below BX.out hb); clear BX; have BX := n_; clear n_; have n_ := Aside0.mk (below_step (by repeat (first | (with_reducible first | exact HM.out | apply below_alloc | apply pw_below_drewN | apply below_drew1) | exact HM.out)) hb); clear HM; have HM := n_; clear n_; clear hb; (try clear y0 y1 y2 y3 y4 y5); obtain ⟨y0, y1, y2, y3, y4, y5⟩ := held6 BX.out) | (go_at_call 9; refine (make_ x A4 A5 c4 c5 _ FF.out.2.2 (by have := FF.out.1; omega) H4.out H5.out).mono ?_; rintro e wT ⟨g, rfl, ht, hb⟩; have TT := Aside0.mk ht; have n_ := Aside0.mk (Kd.C_below H4.out hb); clear H4; have H4 := n_; clear n_; have n_ := Aside0.mk (Kd.C_below H5.out hb); clear H5; have H5 := n_; clear n_; have n_ := Aside0.mk (blk_below BX.out hb); clear BX; have BX := n_; clear n_; have n_ := Aside0.mk (below_step (by repeat (first | (with_reducible first | exact HM.out | apply below_alloc | apply pw_below_drewN | apply below_drew1) | exact HM.out)) hb); clear HM; have HM := n_; clear n_; clear hb ht; (try clear y0 y1 y2 y3 y4 y5); obtain ⟨y0, y1, y2, y3, y4, y5⟩ := held6 BX.out) | (go_at_call 12; refine (Rows_ x A4 A5 c4 c5 _ (by have := FF.out.1; omega) H4.out L4.out H5.out L5.out).mono ?_; rintro e wR ⟨A, c, rfl, hc, hC, hb⟩; have HC := Aside0.mk hC; have LC := Aside0.mk hc; have n_ := Aside0.mk (Kd.C_below H4.out hb); clear H4; have H4 := n_; clear n_; have n_ := Aside0.mk (Kd.C_below H5.out hb); clear H5; have H5 := n_; clear n_; have n_ := Aside0.mk (blk_below BX.out hb); clear BX; have BX := n_; clear n_; have n_ := Aside0.mk (TT.out.below hb); clear TT; have TT := n_; clear n_; have n_ := Aside0.mk (below_step (by repeat (first | (with_reducible first | exact HM.out | apply below_alloc | apply pw_below_drewN | apply below_drew1) | exact HM.out)) hb); clear HM; have HM := n_; clear n_; clear hb hC hc y0 y1 y2 y3 y4 y5))
  have HT := Aside0.mk (Below.refl wR.heap.size wR)
  have HB : Aside0 (hasB (knL [x] (-1) 0) n = false) := ⟨decide_eq_false (fun h => cn ⟨h.1, by rw [← EL.out]; exact h.2⟩)⟩
  have EK : Aside0 (knotV (knotF (knL [x] (-1) 0) n) = .agg #[.int .i64 0, .int .i64 0, .int .i64 0, .int .i64 0, .int .i64 0, .int .i64 0, .int .i64 0] ∧ hasB (knL [x] (-1) 0) n = false) := ⟨by unfold knotF; rw [HB.out, if_neg (by decide)]; exact ⟨rfl, rfl⟩⟩
  have EN : Aside0 (namesF (knL [x] (-1) 0) (nmL [x]) n = []) := ⟨by unfold namesF; rw [HB.out, if_neg (by decide)]⟩
  have EP : Aside0 (PathK (knL [x] (-1) 0) n []) := ⟨.nil HB.out⟩
  have LT : Aside0 (hasB (knL [x] (-1) 0) n = true → False) := ⟨fun h => absurd (HB.out.symm.trans h) (by decide)⟩
  have hu39 := Try.underlying39
  rcases (show (decide (n < 0) = true) ∨ (decide (n < 0) = false ∧ decide (n ≥ ((rwL [x] (-1) 1 0).length : Int)) = true) by (by_cases c1 : n < 0; exact Or.inl (decide_eq_true c1); exact Or.inr ⟨decide_eq_false c1, decide_eq_true (by omega)⟩)) with d1 | ⟨d1, d2⟩
  all_goals
    clear cn
    go_upto_region 8 with (first | (go_at_call 15; refine (len_ (some ⟨g, 0, none⟩) (knL [x] (-1) 0) (nmL [x]) _ ⟨by rw [nm_len, kn_len], Or.inr ⟨g, rfl, (TT.out.below (by repeat (first | (with_reducible first | exact HT.out | apply below_alloc | apply pw_below_drewN | apply below_drew1) | exact HT.out)))⟩⟩).mono ?_; rintro e w9 ⟨rfl, hb⟩; rw [EL.out]; have n_ := Aside0.mk (below_step (by repeat (first | (with_reducible first | exact HT.out | apply below_alloc | apply pw_below_drewN | apply below_drew1) | exact HT.out)) hb); clear HT; have HT := n_; clear n_; clear hb))
    go_upto_region 9 with (first | (go_at_call 17; refine (knot_ (some ⟨g, 0, none⟩) (knL [x] (-1) 0) (nmL [x]) n _ ⟨by rw [nm_len, kn_len], Or.inr ⟨g, rfl, (TT.out.below (by repeat (first | (with_reducible first | exact HT.out | apply below_alloc | apply pw_below_drewN | apply below_drew1) | exact HT.out)))⟩⟩).mono ?_; rintro e w8 ⟨rfl, hb⟩; rw [EK.out.1, EK.out.2]; have n_ := Aside0.mk (below_step (by repeat (first | (with_reducible first | exact HT.out | apply below_alloc | apply pw_below_drewN | apply below_drew1) | exact HT.out)) hb); clear HT; have HT := n_; clear n_; clear hb) | ((with_reducible refine gate_dst (N := 7) rfl ?_); refine box_event ?hg (N := 7) ?hd (cs := #[.int .i64 0, .int .i64 0, .int .i64 0, .int .i64 0, .int .i64 0, .int .i64 0, .int .i64 0]) (t := 39) ?hr ?_; (case hd => rfl); (case hg => rfl); (case hr => first | (go_simp; done) | (go_simp; rfl)); intro g9 hg w9 hbox hb; have B9 := Aside0.mk hbox; have G9 := Aside0.mk ((by rw [hg]; exact (below_size (by repeat (first | (with_reducible first | exact HT.out | apply below_alloc | apply pw_below_drewN | apply below_drew1) | exact HT.out)))) : wR.heap.size ≤ g9); have n_ := Aside0.mk (below_step (by repeat (first | (with_reducible first | exact HT.out | apply below_alloc | apply pw_below_drewN | apply below_drew1) | exact HT.out)) hb); clear HT; have HT := n_; clear n_; clear hb hbox hg; have z0 : w9.cell? ⟨g9, 0, none⟩ = some (.int .i64 0) := (blk_cell B9.out 0).trans rfl; have f0 := blk_frozen B9.out 0; have z1 : w9.cell? ⟨g9, 1, none⟩ = some (.int .i64 0) := (blk_cell B9.out 1).trans rfl; have f1 := blk_frozen B9.out 1; have z2 : w9.cell? ⟨g9, 2, none⟩ = some (.int .i64 0) := (blk_cell B9.out 2).trans rfl; have f2 := blk_frozen B9.out 2; have z3 : w9.cell? ⟨g9, 3, none⟩ = some (.int .i64 0) := (blk_cell B9.out 3).trans rfl; have f3 := blk_frozen B9.out 3; have z4 : w9.cell? ⟨g9, 4, none⟩ = some (.int .i64 0) := (blk_cell B9.out 4).trans rfl; have f4 := blk_frozen B9.out 4; have z5 : w9.cell? ⟨g9, 5, none⟩ = some (.int .i64 0) := (blk_cell B9.out 5).trans rfl; have f5 := blk_frozen B9.out 5; have z6 : w9.cell? ⟨g9, 6, none⟩ = some (.int .i64 0) := (blk_cell B9.out 6).trans rfl; have f6 := blk_frozen B9.out 6))
    have BK := Aside0.mk (blk_put (blk_put (blk_put (blk_put (blk_put (blk_put (blk_put B9.out 0 (.int .i64 0) rfl) 1 (.int .i64 0) rfl) 2 (.int .i64 0) rfl) 3 (.int .i64 0) rfl) 4 (.int .i64 0) rfl) 5 (.int .i64 0) rfl) 6 (.int .i64 0) rfl)
    have n_ := Aside0.mk (below_set (below_set (below_set (below_set (below_set (below_set (below_set HT.out G9.out (v := .int .i64 0) (j := 0)) G9.out (v := .int .i64 0) (j := 1)) G9.out (v := .int .i64 0) (j := 2)) G9.out (v := .int .i64 0) (j := 3)) G9.out (v := .int .i64 0) (j := 4)) G9.out (v := .int .i64 0) (j := 5)) G9.out (v := .int .i64 0) (j := 6))
    clear HT B9 z0 z1 z2 z3 z4 z5 z6 f0 f1 f2 f3 f4 f5 f6
    have HT := n_
    have BK2 : Aside0 ((((((((w9.setCell ⟨g9, 0, none⟩ (.int .i64 0)).setCell ⟨g9, 1, none⟩ (.int .i64 0)).setCell ⟨g9, 2, none⟩ (.int .i64 0)).setCell ⟨g9, 3, none⟩ (.int .i64 0)).setCell ⟨g9, 4, none⟩ (.int .i64 0)).setCell ⟨g9, 5, none⟩ (.int .i64 0)).setCell ⟨g9, 6, none⟩ (.int .i64 0)).heap[g9]? = some (.cells #[.int .i64 0, .int .i64 0, .int .i64 0, .int .i64 0, .int .i64 0, .int .i64 0, .int .i64 0] 39 (0, 0))) := ⟨BK.out⟩
    clear n_ BK
    generalize (((((((w9.setCell ⟨g9, 0, none⟩ (.int .i64 0)).setCell ⟨g9, 1, none⟩ (.int .i64 0)).setCell ⟨g9, 2, none⟩ (.int .i64 0)).setCell ⟨g9, 3, none⟩ (.int .i64 0)).setCell ⟨g9, 4, none⟩ (.int .i64 0)).setCell ⟨g9, 5, none⟩ (.int .i64 0)).setCell ⟨g9, 6, none⟩ (.int .i64 0)) = wK at BK2 HT ⊢
    have x0 : wK.cell? ⟨g9, 0, none⟩ = some (.int .i64 0) := (blk_cell BK2.out 0).trans rfl
    have xf0 := blk_frozen BK2.out 0
    have x1 : wK.cell? ⟨g9, 1, none⟩ = some (.int .i64 0) := (blk_cell BK2.out 1).trans rfl
    have xf1 := blk_frozen BK2.out 1
    have x2 : wK.cell? ⟨g9, 2, none⟩ = some (.int .i64 0) := (blk_cell BK2.out 2).trans rfl
    have xf2 := blk_frozen BK2.out 2
    have x3 : wK.cell? ⟨g9, 3, none⟩ = some (.int .i64 0) := (blk_cell BK2.out 3).trans rfl
    have xf3 := blk_frozen BK2.out 3
    have x4 : wK.cell? ⟨g9, 4, none⟩ = some (.int .i64 0) := (blk_cell BK2.out 4).trans rfl
    have xf4 := blk_frozen BK2.out 4
    have x5 : wK.cell? ⟨g9, 5, none⟩ = some (.int .i64 0) := (blk_cell BK2.out 5).trans rfl
    have xf5 := blk_frozen BK2.out 5
    have x6 : wK.cell? ⟨g9, 6, none⟩ = some (.int .i64 0) := (blk_cell BK2.out 6).trans rfl
    have xf6 := blk_frozen BK2.out 6
    go_wp2_with (first | (go_at_call 15; refine (len_ (some ⟨g, 0, none⟩) (knL [x] (-1) 0) (nmL [x]) _ ⟨by rw [nm_len, kn_len], Or.inr ⟨g, rfl, (TT.out.below (by repeat (first | (with_reducible first | exact HT.out | apply below_alloc | apply pw_below_drewN | apply below_drew1) | exact HT.out)))⟩⟩).mono ?_; rintro e w2 ⟨rfl, hb⟩; have n_ := Aside0.mk (blk_below BK2.out hb); clear BK2; have BK2 := n_; clear n_; have n_ := Aside0.mk (below_step (by repeat (first | (with_reducible first | exact HT.out | apply below_alloc | apply pw_below_drewN | apply below_drew1) | exact HT.out)) hb); clear HT; have HT := n_; clear n_; clear hb; rw [EL.out]) | (go_at_call 19; refine (names_ (some ⟨g, 0, none⟩) (knL [x] (-1) 0) (nmL [x]) n _ ⟨by rw [nm_len, kn_len], Or.inr ⟨g, rfl, (TT.out.below (by repeat (first | (with_reducible first | exact HT.out | apply below_alloc | apply pw_below_drewN | apply below_drew1) | exact HT.out)))⟩⟩ (by rw [EN.out]; decide)).mono ?_; rintro e w2 ⟨v1, rfl, hr, hb⟩; have n_ := Aside0.mk (blk_below BK2.out hb); clear BK2; have BK2 := n_; clear n_; have n_ := Aside0.mk (below_step (by repeat (first | (with_reducible first | exact HT.out | apply below_alloc | apply pw_below_drewN | apply below_drew1) | exact HT.out)) hb); clear HT; have HT := n_; clear n_; clear hb; rw [EN.out] at hr; obtain ⟨A1, c1, e1⟩ := Kd.R_slice hr; subst e1; clear hr) | (go_at_call 16; refine (kids_ (some ⟨g, 0, none⟩) (knL [x] (-1) 0) (nmL [x]) n [] _ ⟨by rw [nm_len, kn_len], Or.inr ⟨g, rfl, (TT.out.below (by repeat (first | (with_reducible first | exact HT.out | apply below_alloc | apply pw_below_drewN | apply below_drew1) | exact HT.out)))⟩⟩ (by decide) (fun h => (LT.out h).elim) (fun _ => rfl)).mono ?_; rintro e w2 ⟨v2, rfl, hr, hb⟩; have n_ := Aside0.mk (blk_below BK2.out hb); clear BK2; have BK2 := n_; clear n_; have n_ := Aside0.mk (below_step (by repeat (first | (with_reducible first | exact HT.out | apply below_alloc | apply pw_below_drewN | apply below_drew1) | exact HT.out)) hb); clear HT; have HT := n_; clear n_; clear hb; obtain ⟨A2, c2, e2⟩ := Kd.R_slice hr; subst e2; clear hr) | (go_at_call 20; refine (deep_ (some ⟨g, 0, none⟩) (knL [x] (-1) 0) (nmL [x]) n [] _ ⟨by rw [nm_len, kn_len], Or.inr ⟨g, rfl, (TT.out.below (by repeat (first | (with_reducible first | exact HT.out | apply below_alloc | apply pw_below_drewN | apply below_drew1) | exact HT.out)))⟩⟩ (by decide) EP.out).mono ?_; rintro e w2 ⟨rfl, hb⟩; have n_ := Aside0.mk (blk_below BK2.out hb); clear BK2; have BK2 := n_; clear n_; have n_ := Aside0.mk (below_step (by repeat (first | (with_reducible first | exact HT.out | apply below_alloc | apply pw_below_drewN | apply below_drew1) | exact HT.out)) hb); clear HT; have HT := n_; clear n_; clear hb) | (go_at_call 18; refine (walk_ (some ⟨g, 0, none⟩) (knL [x] (-1) 0) (nmL [x]) n [] _ ⟨by rw [nm_len, kn_len], Or.inr ⟨g, rfl, (TT.out.below (by repeat (first | (with_reducible first | exact HT.out | apply below_alloc | apply pw_below_drewN | apply below_drew1) | exact HT.out)))⟩⟩ (by decide) (fun h => (LT.out h).elim) (fun _ => rfl)).mono ?_; rintro e w2 ⟨v3, rfl, hr, hb⟩; have n_ := Aside0.mk (blk_below BK2.out hb); clear BK2; have BK2 := n_; clear n_; have n_ := Aside0.mk (below_step (by repeat (first | (with_reducible first | exact HT.out | apply below_alloc | apply pw_below_drewN | apply below_drew1) | exact HT.out)) hb); clear HT; have HT := n_; clear n_; clear hb; obtain ⟨A3, c3, e3⟩ := Kd.R_slice hr; subst e3; clear hr) | (go_at_call 21; refine (path_ (some ⟨g, 0, none⟩) (knL [x] (-1) 0) (nmL [x]) n [] _ ⟨by rw [nm_len, kn_len], Or.inr ⟨g, rfl, (TT.out.below (by repeat (first | (with_reducible first | exact HT.out | apply below_alloc | apply pw_below_drewN | apply below_drew1) | exact HT.out)))⟩⟩ (by decide) EP.out).mono ?_; rintro e w2 ⟨v4, rfl, hr, hb⟩; have n_ := Aside0.mk (blk_below BK2.out hb); clear BK2; have BK2 := n_; clear n_; have n_ := Aside0.mk (below_step (by repeat (first | (with_reducible first | exact HT.out | apply below_alloc | apply pw_below_drewN | apply below_drew1) | exact HT.out)) hb); clear HT; have HT := n_; clear n_; clear hb; obtain ⟨A4_, c4_, e4⟩ := Kd.R_slice hr; subst e4; clear hr) | (go_at_call 23; refine (branchOut (some ⟨g, 0, none⟩) (knL [x] (-1) 0) (nmL [x]) n _ ⟨by rw [nm_len, kn_len], Or.inr ⟨g, rfl, (TT.out.below (by repeat (first | (with_reducible first | exact HT.out | apply below_alloc | apply pw_below_drewN | apply below_drew1) | exact HT.out)))⟩⟩ HB.out).mono ?_; rintro e w2 ⟨rfl, hb⟩; have n_ := Aside0.mk (blk_below BK2.out hb); clear BK2; have BK2 := n_; clear n_; have n_ := Aside0.mk (below_step (by repeat (first | (with_reducible first | exact HT.out | apply below_alloc | apply pw_below_drewN | apply below_drew1) | exact HT.out)) hb); clear HT; have HT := n_; clear n_; clear hb) | (go_at_call 22; refine (same_zero _).mono ?_; rintro e w2 ⟨rfl, hb⟩; have n_ := Aside0.mk (blk_below BK2.out hb); clear BK2; have BK2 := n_; clear n_; have n_ := Aside0.mk (below_step (by repeat (first | (with_reducible first | exact HT.out | apply below_alloc | apply pw_below_drewN | apply below_drew1) | exact HT.out)) hb); clear HT; have HT := n_; clear n_; clear hb) | (go_at_call 13; refine (alive _).mono ?_; rintro e w2 ⟨rfl, hb⟩; have n_ := Aside0.mk (blk_below BK2.out hb); clear BK2; have BK2 := n_; clear n_; have n_ := Aside0.mk (below_step (by repeat (first | (with_reducible first | exact HT.out | apply below_alloc | apply pw_below_drewN | apply below_drew1) | exact HT.out)) hb); clear HT; have HT := n_; clear n_; clear hb))
    go_ret
    exact ⟨rfl, below_step HM.out HT.out⟩
set_option maxHeartbeats 8000000 in
set_option maxRecDepth 100000 in
theorem law (x : S25) (n : Int) (A4 A5 : Option Addr) (c4 c5 : Nat) (w : World) (h4 : Kd.C (Kd.int .i64) w A4 x.f4.length x.f4) (l4 : x.f4.length ≤ c4) (h5 : Kd.C k25 w A5 x.f5.length x.f5) (l5 : x.f5.length ≤ c5) :
    Calls Try.prog 5 #[.agg #[.int .i64 x.f0, .int .i64 x.f1, .int .i64 x.f2, .int .i64 x.f3, .slice A4 x.f4.length c4, .slice A5 x.f5.length c5], .int .i64 n] w fun e w' => e = .returned (.bool true) ∧ Below w.heap.size w w' := by
  cases hfb : fewB x with
  | true =>
    by_cases cn : 0 ≤ n ∧ n < ((rwL [x] (-1) 1 0).length : Int)
    · exact lawIn x n A4 A5 c4 c5 w h4 l4 h5 l5 hfb cn
    · exact lawOut x n A4 A5 c4 c5 w h4 l4 h5 l5 hfb cn
  | false =>
    have HM := Aside0.mk (Below.refl w.heap.size w)
    have H4 := Aside0.mk h4
    have H5 := Aside0.mk h5
    have L4 := Aside0.mk l4
    have L5 := Aside0.mk l5
    clear h4 h5 l4 l5
    have EF := Aside0.mk hfb
    clear hfb
    go_enter Try.func5, Try.ntmps5
    go_wp2_with (first | ((with_reducible refine gate_dst (N := 2) rfl ?_); refine box_event ?hg (N := 2) ?hd (cs := #[.int .i64 x.f0, .int .i64 x.f1, .int .i64 x.f2, .int .i64 x.f3, .slice A4 x.f4.length c4, .slice A5 x.f5.length c5]) (t := 25) ?hr ?_; (case hd => rfl); (case hg => rfl); (case hr => first | (go_simp; done) | (go_simp; rfl)); intro gb hg w1 hbox hb; have BX := Aside0.mk hbox; have n_ := Aside0.mk (Kd.C_below H4.out hb); clear H4; have H4 := n_; clear n_; have n_ := Aside0.mk (Kd.C_below H5.out hb); clear H5; have H5 := n_; clear n_; have n_ := Aside0.mk (below_step (by repeat (first | (with_reducible first | exact HM.out | apply below_alloc | apply pw_below_drewN | apply below_drew1) | exact HM.out)) hb); clear HM; have HM := n_; clear n_; clear hb hbox hg; (try clear y0 y1 y2 y3 y4 y5); obtain ⟨y0, y1, y2, y3, y4, y5⟩ := held6 BX.out) | (go_at_call 8; refine (few_ x A4 A5 c4 c5 _ H4.out L4.out H5.out L5.out).mono ?_; rintro e w9 ⟨rfl, hb⟩; rw [EF.out]; have n_ := Aside0.mk (Kd.C_below H4.out hb); clear H4; have H4 := n_; clear n_; have n_ := Aside0.mk (Kd.C_below H5.out hb); clear H5; have H5 := n_; clear n_; have n_ := Aside0.mk (blk_below BX.out hb); clear BX; have BX := n_; clear n_; have n_ := Aside0.mk (below_step (by repeat (first | (with_reducible first | exact HM.out | apply below_alloc | apply pw_below_drewN | apply below_drew1) | exact HM.out)) hb); clear HM; have HM := n_; clear n_; clear hb; (try clear y0 y1 y2 y3 y4 y5); obtain ⟨y0, y1, y2, y3, y4, y5⟩ := held6 BX.out) | (go_at_call 13; refine (alive _).mono ?_; rintro e w9 ⟨rfl, hb⟩; have n_ := Aside0.mk (below_step (by repeat (first | (with_reducible first | exact HM.out | apply below_alloc | apply pw_below_drewN | apply below_drew1) | exact HM.out)) hb); clear HM; have HM := n_; clear n_; clear hb))
    go_ret
    exact ⟨rfl, HM.out⟩
end Go.Proofs.Ytemdnmidhmddlaa.TreeMakes
namespace Go.Proofs.Ytemdnmidhmddlaa.PAll
open Go Go.RowKit Go.Proofs.YtemdnmidhmddlaaW.PrintWords
def oriellaw06_TreeMakes.f (_x : S25) (_n : Int) : Option Bool := some true
theorem oriellaw06_TreeMakes.calls (x : S25) (A4 : Option Addr) (c4 : Nat) (A5 : Option Addr) (c5 : Nat) (n : Int) (r : Bool) (w : World) (h4 : Kd.C (Kd.int .i64) w A4 x.f4.length x.f4) (l4 : x.f4.length ≤ c4) (h5 : Kd.C k25 w A5 x.f5.length x.f5) (l5 : x.f5.length ≤ c5) (h : oriellaw06_TreeMakes.f x n = some r) :
    Calls Try.prog 5 #[.agg #[.int .i64 x.f0, .int .i64 x.f1, .int .i64 x.f2, .int .i64 x.f3, .slice A4 x.f4.length c4, .slice A5 x.f5.length c5], .int .i64 n] w fun e w' => e = .returned (.bool r) ∧ Below w.heap.size w w' := by
  injection h with h
  subst h
  exact TreeMakes.law x n A4 A5 c4 c5 w h4 l4 h5 l5
end Go.Proofs.Ytemdnmidhmddlaa.PAll
