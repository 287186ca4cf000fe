/- tree.Branch, walked: the part of which the node was made. Conditions: few parts, few names. -/
import Derived.Test.YtemdnmidhmddlaaTrO
import Derived.Test.YtemdnmidhmddlaaTpG
namespace Go.Proofs.Ytemdnmidhmddlaa.Tree
open Go Go.RowKit Go.Proofs.YtemdnmidhmddlaaW.PrintWords Go.Proofs.YtemdnmidhmddlaaW.PrintLast Go.Proofs.YtemdnmidhmddlaaW.PrintMore Go.Proofs.Ytemdnmidhmddlaa.PAll
set_option linter.unusedVariables false
set_option linter.unusedSimpArgs false
theorem info25 : (Try.prog.info? 25).map (fun i => (i.zero, i.size, i.bytes)) = some (some (.agg #[.int .i64 0, .int .i64 0, .int .i64 0, .int .i64 0, .slice none 0 0, .slice none 0 0]), 6, 80) := by kernel_rfl
theorem rw_szL : ∀ (N : Nat) (l : List S25) (up d : Int) (m : Nat), SizeOf.sizeOf l < N → ∀ e ∈ rwL l up d m, szL [e.f0] ≤ szL l
 | 0, _, _, _, _, h, _, _ => absurd h (Nat.not_lt_zero _)
 | N + 1, [], _, _, _, _, e, he => by rw [rwL_nil] at he; cases he
 | N + 1, x :: r, up, d, m, hN, e, he => by
  have z1 := szk x r
  have z2 := szr x r
  have h1 := szL_cons x r
  have h2 := szL_one x
  rw [rwL_cons] at he
  rcases List.mem_cons.mp he with rfl | he
  ·show szL [x] ≤ _
   omega
  ·rcases List.mem_append.mp he with he | he
   ·have := rw_szL N x.f5 _ _ _ (by omega) e he
    omega
   ·have := rw_szL N r _ _ _ (by omega) e he
    omega
theorem kid_at {ks : List S39} {rl : List S46} : ∀ (l : List S25) (up d : Int) (m : Nat), Seg ks rl l up d m → ∀ (j : Nat) (k : Int), (kpL l m)[j]? = some k → ∃ (e2 : S46) (m2 : Nat), k = (m2 : Int) ∧ l[j]? = some e2.f0 ∧ Node ks rl e2 m2
 | [], _, _, _, _, j, k, h => by rw [kpL] at h; cases h
 | x :: r, up, d, m, hs, j, k, h => by
  obtain ⟨hk, hn, hs2⟩ := hs.cons
  rw [kpL] at h
  cases j with
  | zero =>
   rw [List.getElem?_cons_zero] at h
   exact ⟨_, m, (Option.some.inj h).symm, rfl, hn⟩
  | succ j =>
   rw [List.getElem?_cons_succ] at h
   obtain ⟨e2, m2, h1, h2, h3⟩ := kid_at r up d _ hs2 j k h
   exact ⟨e2, m2, h1, by rw [List.getElem?_cons_succ]; exact h2, h3⟩
theorem store6 {w : World} {g : Nat} {u0 u1 u2 u3 u4 u5 : Value} (v0 v1 v2 v3 v4 v5 : Value) (h : w.heap[g]? = some (.cells #[u0, u1, u2, u3, u4, u5] 25 (0, 0))) {w' : World} (hw : w' = ((((((w.setCell ⟨g, 0, none⟩ (v0)).setCell ⟨g, 1, none⟩ (v1)).setCell ⟨g, 2, none⟩ (v2)).setCell ⟨g, 3, none⟩ (v3)).setCell ⟨g, 4, none⟩ (v4)).setCell ⟨g, 5, none⟩ (v5))) :
  w'.heap[g]? = some (.cells #[v0, v1, v2, v3, v4, v5] 25 (0, 0)) ∧ (∀ w0 : World, w0.heap.size ≤ g → Below w0.heap.size w0 w → Below w0.heap.size w0 w') ∧ (∀ (base : Nat) (ok : Nat → Prop) (u : Value) (xs : List Int), Kd.R (Kd.int .i64) 3 w base ok u xs → Kd.R (Kd.int .i64) 3 w' base ok u xs) ∧ (∀ (base : Nat) (ok : Nat → Prop) (u : Value) (xs : List S25), (∀ k, ok k → k ≠ g) → Kd.R k25 25 w base ok u xs → Kd.R k25 25 w' base ok u xs) ∧ (∀ (g2 t : Nat) (cs : Array Value), g2 ≠ g → w.heap[g2]? = some (.cells cs t (0, 0)) → w'.heap[g2]? = some (.cells cs t (0, 0))) := by
 subst hw
 have h0 := blk_put h 0 v0 rfl
 have h1 := blk_put h0 1 v1 rfl
 have h2 := blk_put h1 2 v2 rfl
 have h3 := blk_put h2 3 v3 rfl
 have h4 := blk_put h3 4 v4 rfl
 have h5 := blk_put h4 5 v5 rfl
 have e3 : ∀ q, q ∈ 3 :: (Kd.int .i64).E → q ≠ 25 := fun q hq => by
  rcases List.mem_cons.mp hq with rfl | hq
  ·decide
  ·cases hq
 refine ⟨h5, fun w0 hg hb => below_set (below_set (below_set (below_set (below_set (below_set hb hg) hg) hg) hg) hg) hg, fun base ok u xs hr => Kd.R_set (Kd.R_set (Kd.R_set (Kd.R_set (Kd.R_set (Kd.R_set hr h e3 0 v0) h0 e3 1 v1) h1 e3 2 v2) h2 e3 3 v3) h3 e3 4 v4) h4 e3 5 v5, fun base ok u xs hok hr => Kd.R_far (Kd.R_far (Kd.R_far (Kd.R_far (Kd.R_far (Kd.R_far hr hok v0) hok v1) hok v2) hok v3) hok v4) hok v5, fun g2 t cs hne hh => blk_far (blk_far (blk_far (blk_far (blk_far (blk_far hh hne v0) hne v1) hne v2) hne v3) hne v4) hne v5⟩
theorem build25 (a : Act) (w : World) (o : Oper) (ho : o.op = .buildSlice 23 1 #[(0, .tmp 43)]) (a0 a1 a2 a3 : Int) (v4 v5 : Value) (h4 : ∃ A n c, v4 = .slice A n c) (h5 : ∃ A n c, v5 = .slice A n c) (h : a.tmps[43]?.getD undef = .agg #[.int .i64 a0, .int .i64 a1, .int .i64 a2, .int .i64 a3, v4, v5]) :
  (execOp a.eval o).run Try.prog w = .ok (.value (.slice (some ⟨w.heap.size, 0, none⟩) 1 1)) (w.alloc (.cells #[.int .i64 a0, .int .i64 a1, .int .i64 a2, .int .i64 a3, v4, v5] 25)) := by
 obtain ⟨A4, n4, c4, rfl⟩ := h4
 obtain ⟨A5, n5, c5, rfl⟩ := h5
 unfold execOp
 rw [ho]
 first | (go_simp; done) | (go_simp; rfl)
theorem e3n : ∀ q, q ∈ 3 :: (Kd.int .i64).E → q ≠ 25 := fun q hq => by
 rcases List.mem_cons.mp hq with rfl | hq
 ·decide
 ·cases hq
def BrPost (w : World) (x : S25) (r : Ending) (w' : World) : Prop :=
 ∃ v4 v5, r = .returned (.agg #[.int .i64 x.f0, .int .i64 x.f1, .int .i64 x.f2, .int .i64 x.f3, v4, v5]) ∧ (Kd.int .i64).R 3 w' w.heap.size (fun _ => True) v4 x.f4 ∧ k25.R 25 w' w.heap.size (fun _ => True) v5 x.f5 ∧ Below w.heap.size w w'
def BranchAt (x : S25) (N : Nat) : Prop := ∀ (e : S46) (n : Nat) (a : Int) (g : Nat) (w : World), SizeOf.sizeOf e.f0 < N → a = (n : Int) → Node (knL [x] (-1) 0) (rwL [x] (-1) 1 0) e n → TreeAt w g (knL [x] (-1) 0) (nmL [x]) →
  Calls Try.prog 23 #[.pointer (some ⟨g, 0, none⟩), .int .i64 a] w (BrPost w e.f0)
theorem held4 {g : Nat} {v0 v1 v2 v3 v4 v5 v6 : Value} {w : World} (h : w.heap[g]? = some (.cells #[v0, v1, v2, v3, v4, v5, v6] 39 (0, 0))) : w.cell? ⟨g, 0, none⟩ = some v0 ∧ w.cell? ⟨g, 1, none⟩ = some v1 ∧ w.cell? ⟨g, 2, none⟩ = some v2 ∧ w.cell? ⟨g, 3, none⟩ = some v3 :=
 ⟨(blk_cell h 0).trans rfl, (blk_cell h 1).trans rfl, (blk_cell h 2).trans rfl, (blk_cell h 3).trans rfl⟩
def R23a.T : Bool × List (List Nat × List Nat) := (true, [([], []), ([0], [0]), ([], []), ([2], [2]), ([], []), ([4], [4]), ([], []), ([6], [6]), ([], []), ([], []), ([8, 9], [8, 9]), ([1, 3, 5, 7, 10], [1, 3, 5, 7, 10]), ([], []), ([12, 11, 10, 0, 1, 2, 3, 4, 5, 6, 7, 8, 9, 10, 11, 12], [11, 12])])
def R23a.B : List Nat := [0, 1, 0, 4, 0, 16, 0, 64, 0, 0, 768, 2047, 0, 8191]
theorem R23a.tab : rtab .any (opsOf Try.f23 4) = R23a.T := by kernel_rfl
theorem R23a.bits : waitsOk R23a.T.2 R23a.B = true := by kernel_rfl
def R23b.T : Bool × List (List Nat × List Nat) := (true, [([], []), ([0], [0]), ([], []), ([], []), ([2, 3], [2, 3]), ([4], [4]), ([1, 5, 4], [1, 5]), ([0, 1, 2, 3, 4, 5, 6], []), ([7, 6, 6, 0, 1, 2, 3, 4, 5, 6], [6, 7])])
def R23b.B : List Nat := [0, 1, 0, 0, 12, 28, 63, 127, 255]
theorem R23b.tab : rtab .any (opsOf Try.f23 8) = R23b.T := by kernel_rfl
theorem R23b.bits : waitsOk R23b.T.2 R23b.B = true := by kernel_rfl
set_option maxHeartbeats 8000000 in
set_option maxRecDepth 100000 in
theorem branchS (x : S25) (hx : szL [x] ≤ 150) (hn5 : nmT [x] ≤ 500) (N : Nat) (ih : BranchAt x N) : BranchAt x (N + 1) := by
 intro e n a g w hsz ha hno ht
 have IH := Aside0.mk ih
 have HZ := Aside0.mk hsz
 have HE := Aside0.mk ha
 have NO := Aside0.mk hno
 have TT := Aside0.mk ht
 obtain ⟨nx, hkn⟩ := hno.hk
 have KV : Aside0 (knotV (knotF (knL [x] (-1) 0) a) = .agg #[.int .i64 e.f0.f0, .int .i64 e.f0.f1, .int .i64 e.f0.f2, .int .i64 e.f0.f3, .int .i64 e.f1, .int .i64 (fst e.f0.f5 (n + 1)), .int .i64 nx] ∧ hasB (knL [x] (-1) 0) a = true) := ⟨by
  have h_ := has_at hkn
  unfold knotF
  rw [ha, if_pos h_, rd39 hkn]
  exact ⟨rfl, h_⟩⟩
 have NM : Aside0 (namesF (knL [x] (-1) 0) (nmL [x]) a = e.f0.f4) := ⟨by rw [ha]; exact names_at x hno.hr hkn⟩
 have N5 : Aside0 (e.f0.f4.length ≤ 500) := ⟨rw_names x hn5 hno.hr⟩
 obtain ⟨kl, ekl⟩ : ∃ kl, kpL e.f0.f5 (n + 1) = kl := ⟨_, rfl⟩
 have CK : Aside0 (ChainK (knL [x] (-1) 0) (rd_T39 (knL [x] (-1) 0) a).f5 kl) := ⟨by rw [ha, rd39 hkn, ← ekl]; exact chain_ _ _ _ _ hno.hs⟩
 have KE : Aside0 (kl.length = e.f0.f5.length) := ⟨by rw [← ekl, kpL_len]⟩
 have KL : Aside0 (kl.length ≤ 1000) := ⟨by have h0_ := KE.out; have h1_ := len_le_szL e.f0.f5; have h4_ := szL_one e.f0; have h5_ := rw_szL _ [x] (-1) 1 0 (Nat.lt_succ_self _) e (List.mem_of_getElem? hno.hr); omega⟩
 have KF : Aside0 (∀ (j : Nat) (k : Int), kl[j]? = some k → ∃ (e2 : S46) (m2 : Nat), k = (m2 : Int) ∧ e.f0.f5[j]? = some e2.f0 ∧ Node (knL [x] (-1) 0) (rwL [x] (-1) 1 0) e2 m2) := ⟨fun j k hk => by rw [← ekl] at hk; exact kid_at _ _ _ _ hno.hs j k hk⟩
 have HM := Aside0.mk (Below.refl w.heap.size w)
 have hu39 := Try.underlying39
 have hu25 := Try.underlying25
 clear ih hsz ha hno ht hkn ekl hx hn5
 go_enter Try.func23, Try.ntmps23
 go_upto_region 1 with (first | ((with_reducible refine gate_dst (N := 4) rfl ?_); refine box_event ?hg (N := 4) ?hd (cs := #[.int .i64 0, .int .i64 0, .int .i64 0, .int .i64 0, .slice none 0 0, .slice none 0 0]) (t := 25) ?hr ?_; (case hd => rfl); (case hg => rfl); (case hr => first | (go_simp; done) | (go_simp; rfl)); intro g4 hg w4 hbox hb; have Bg4 := Aside0.mk hbox; have Gg4 := Aside0.mk ((by rw [hg]; exact (below_size (by repeat (first | (with_reducible first | exact HM.out | apply below_alloc | apply pw_below_drewN | apply below_drew1) | exact HM.out)))) : w.heap.size ≤ g4); skip; have n_ := Aside0.mk (below_step (by repeat (first | (with_reducible first | exact HM.out | apply below_alloc | apply pw_below_drewN | apply below_drew1) | exact HM.out)) hb); clear HM; have HM := n_; clear n_; clear hb hbox hg))
 go_upto_region 2 with (first | (go_at_call 17; refine (knot_ (some ⟨g, 0, none⟩) (knL [x] (-1) 0) (nmL [x]) a _ ⟨by rw [nm_len, kn_len], Or.inr ⟨g, rfl, (TT.out.below (by repeat (first | (with_reducible first | exact HM.out | apply below_alloc | apply pw_below_drewN | apply below_drew1) | exact HM.out)))⟩⟩).mono ?_; rintro e_ w2 ⟨rfl, hb⟩; rw [KV.out.1, KV.out.2]; have n_ := Aside0.mk (blk_below Bg4.out hb); clear Bg4; have Bg4 := n_; clear n_; have n_ := Aside0.mk (below_step (by repeat (first | (with_reducible first | exact HM.out | apply below_alloc | apply pw_below_drewN | apply below_drew1) | exact HM.out)) hb); clear HM; have HM := n_; clear n_; clear hb) | ((with_reducible refine gate_dst (N := 5) rfl ?_); refine box_event ?hg (N := 5) ?hd (cs := #[.int .i64 0, .int .i64 0, .int .i64 0, .int .i64 0, .int .i64 0, .int .i64 0, .int .i64 0]) (t := 39) ?hr ?_; (case hd => rfl); (case hg => rfl); (case hr => first | (go_simp; done) | (go_simp; rfl)); intro g5 hg w5 hbox hb; have Bg5 := Aside0.mk hbox; have Gg5 := Aside0.mk ((by rw [hg]; exact (below_size (by repeat (first | (with_reducible first | exact HM.out | apply below_alloc | apply pw_below_drewN | apply below_drew1) | exact HM.out)))) : w.heap.size ≤ g5); have NE := Aside0.mk (Nat.ne_of_lt (Nat.lt_of_lt_of_le (Array.getElem?_eq_some_iff.mp Bg4.out).1 (by rw [hg]; exact Nat.le_refl _)) : g4 ≠ g5); have n_ := Aside0.mk (blk_below Bg4.out hb); clear Bg4; have Bg4 := n_; clear n_; have z0 : w5.cell? ⟨g5, 0, none⟩ = some (.int .i64 0) := (blk_cell Bg5.out 0).trans rfl; have zf0 := blk_frozen Bg5.out 0; have z1 : w5.cell? ⟨g5, 1, none⟩ = some (.int .i64 0) := (blk_cell Bg5.out 1).trans rfl; have zf1 := blk_frozen Bg5.out 1; have z2 : w5.cell? ⟨g5, 2, none⟩ = some (.int .i64 0) := (blk_cell Bg5.out 2).trans rfl; have zf2 := blk_frozen Bg5.out 2; have z3 : w5.cell? ⟨g5, 3, none⟩ = some (.int .i64 0) := (blk_cell Bg5.out 3).trans rfl; have zf3 := blk_frozen Bg5.out 3; have z4 : w5.cell? ⟨g5, 4, none⟩ = some (.int .i64 0) := (blk_cell Bg5.out 4).trans rfl; have zf4 := blk_frozen Bg5.out 4; have z5 : w5.cell? ⟨g5, 5, none⟩ = some (.int .i64 0) := (blk_cell Bg5.out 5).trans rfl; have zf5 := blk_frozen Bg5.out 5; have z6 : w5.cell? ⟨g5, 6, none⟩ = some (.int .i64 0) := (blk_cell Bg5.out 6).trans rfl; have zf6 := blk_frozen Bg5.out 6; have n_ := Aside0.mk (below_step (by repeat (first | (with_reducible first | exact HM.out | apply below_alloc | apply pw_below_drewN | apply below_drew1) | exact HM.out)) hb); clear HM; have HM := n_; clear n_; clear hb hbox hg))
 have n4_ := Aside0.mk (blk_far (p := ⟨g5, 6, none⟩) (blk_far (p := ⟨g5, 5, none⟩) (blk_far (p := ⟨g5, 4, none⟩) (blk_far (p := ⟨g5, 3, none⟩) (blk_far (p := ⟨g5, 2, none⟩) (blk_far (p := ⟨g5, 1, none⟩) (blk_far (p := ⟨g5, 0, none⟩) Bg4.out NE.out (.int .i64 e.f0.f0)) NE.out (.int .i64 e.f0.f1)) NE.out (.int .i64 e.f0.f2)) NE.out (.int .i64 e.f0.f3)) NE.out (.int .i64 e.f1)) NE.out (.int .i64 (fst e.f0.f5 (n + 1)))) NE.out (.int .i64 nx))
 have n5_ := Aside0.mk (blk_put (blk_put (blk_put (blk_put (blk_put (blk_put (blk_put Bg5.out 0 (.int .i64 e.f0.f0) rfl) 1 (.int .i64 e.f0.f1) rfl) 2 (.int .i64 e.f0.f2) rfl) 3 (.int .i64 e.f0.f3) rfl) 4 (.int .i64 e.f1) rfl) 5 (.int .i64 (fst e.f0.f5 (n + 1))) rfl) 6 (.int .i64 nx) rfl)
 have n_ := Aside0.mk (below_set (below_set (below_set (below_set (below_set (below_set (below_set HM.out Gg5.out (v := .int .i64 e.f0.f0) (j := 0)) Gg5.out (v := .int .i64 e.f0.f1) (j := 1)) Gg5.out (v := .int .i64 e.f0.f2) (j := 2)) Gg5.out (v := .int .i64 e.f0.f3) (j := 3)) Gg5.out (v := .int .i64 e.f1) (j := 4)) Gg5.out (v := .int .i64 (fst e.f0.f5 (n + 1))) (j := 5)) Gg5.out (v := .int .i64 nx) (j := 6))
 clear HM Bg4 Bg5 z0 z1 z2 z3 z4 z5 z6 zf0 zf1 zf2 zf3 zf4 zf5 zf6
 have HM := n_
 have Bg4 := n4_
 have Bg5 : Aside0 ((((((((w5.setCell ⟨g5, 0, none⟩ (.int .i64 e.f0.f0)).setCell ⟨g5, 1, none⟩ (.int .i64 e.f0.f1)).setCell ⟨g5, 2, none⟩ (.int .i64 e.f0.f2)).setCell ⟨g5, 3, none⟩ (.int .i64 e.f0.f3)).setCell ⟨g5, 4, none⟩ (.int .i64 e.f1)).setCell ⟨g5, 5, none⟩ (.int .i64 (fst e.f0.f5 (n + 1)))).setCell ⟨g5, 6, none⟩ (.int .i64 nx)).heap[g5]? = some (.cells #[.int .i64 e.f0.f0, .int .i64 e.f0.f1, .int .i64 e.f0.f2, .int .i64 e.f0.f3, .int .i64 e.f1, .int .i64 (fst e.f0.f5 (n + 1)), .int .i64 nx] 39 (0, 0))) := ⟨n5_.out⟩
 clear n_ n4_ n5_
 generalize (((((((w5.setCell ⟨g5, 0, none⟩ (.int .i64 e.f0.f0)).setCell ⟨g5, 1, none⟩ (.int .i64 e.f0.f1)).setCell ⟨g5, 2, none⟩ (.int .i64 e.f0.f2)).setCell ⟨g5, 3, none⟩ (.int .i64 e.f0.f3)).setCell ⟨g5, 4, none⟩ (.int .i64 e.f1)).setCell ⟨g5, 5, none⟩ (.int .i64 (fst e.f0.f5 (n + 1)))).setCell ⟨g5, 6, none⟩ (.int .i64 nx)) = w6 at Bg4 Bg5 HM ⊢
 go_upto_region 4 with (first | fail)
 refine start_ (n := 14) (S := fun w' => w'.cell? ⟨g5, 0, none⟩ = some (.int .i64 e.f0.f0) ∧ w'.cell? ⟨g5, 1, none⟩ = some (.int .i64 e.f0.f1) ∧ w'.cell? ⟨g5, 2, none⟩ = some (.int .i64 e.f0.f2) ∧ w'.cell? ⟨g5, 3, none⟩ = some (.int .i64 e.f0.f3)) (ds := [13]) #[false, false, false, false, false, false, false, false, false, false, false, false, false, false] (by kernel_rfl) rfl rfl (held4 (blk_drew Bg5.out)) (fun hHeld => ?_)
 refine with_tabW R23a.tab R23a.bits (fun HT_ HW_ => ?_)
 have n_ := Aside0.mk (blk_drew Bg5.out)
 clear Bg5
 have Bg5 := n_
 clear n_
 have n_ := Aside0.mk (blk_drew Bg4.out)
 clear Bg4
 have Bg4 := n_
 clear n_
 have n_ := Aside0.mk (below_drew1 HM.out)
 clear HM
 have HM := n_
 clear n_
 generalize w6.drew = w7 at Bg4 Bg5 HM hHeld ⊢
 refine pure_ (i := 0) (N := some 19) (v := ?_) (a' := ?_) #[true, false, false, false, false, false, false, false, false, false, false, false, false, false] rfl rfl (any_of HT_.out (by kernel_rfl)) (fun _ _ _ h => h) (Or.inl ⟨by rfl, ?_⟩) ?_ ?_
 rotate_left
 ·intro w'
  go_simp
  with_reducible rfl
 rotate_left
 ·simp only [Act.put, List.setIfInBounds_toArray, List.set_cons_zero, List.set_cons_succ, i64_w, i32_w]
  rfl
 refine take_ (i := 1) (N := some 20) (v := ?_) (a' := ?_) #[true, true, false, false, false, false, false, false, false, false, false, false, false, false] rfl rfl (take_ofW HT_.out HW_.out (by kernel_rfl)) (fun _ _ _ h => h) (Or.inl ⟨by rfl, ?_⟩) hHeld ?_ ?_
 rotate_left
 ·rintro w' ⟨s0, s1, s2, s3⟩
  go_simp
  with_reducible rfl
 rotate_left
 ·simp only [Act.put, List.setIfInBounds_toArray, List.set_cons_zero, List.set_cons_succ, i64_w, i32_w]
  rfl
 refine pure_ (i := 2) (N := some 21) (v := ?_) (a' := ?_) #[true, true, true, false, false, false, false, false, false, false, false, false, false, false] rfl rfl (any_of HT_.out (by kernel_rfl)) (fun _ _ _ h => h) (Or.inl ⟨by rfl, ?_⟩) ?_ ?_
 rotate_left
 ·intro w'
  go_simp
  with_reducible rfl
 rotate_left
 ·simp only [Act.put, List.setIfInBounds_toArray, List.set_cons_zero, List.set_cons_succ, i64_w, i32_w]
  rfl
 refine take_ (i := 3) (N := some 22) (v := ?_) (a' := ?_) #[true, true, true, true, false, false, false, false, false, false, false, false, false, false] rfl rfl (take_ofW HT_.out HW_.out (by kernel_rfl)) (fun _ _ _ h => h) (Or.inl ⟨by rfl, ?_⟩) hHeld ?_ ?_
 rotate_left
 ·rintro w' ⟨s0, s1, s2, s3⟩
  go_simp
  with_reducible rfl
 rotate_left
 ·simp only [Act.put, List.setIfInBounds_toArray, List.set_cons_zero, List.set_cons_succ, i64_w, i32_w]
  rfl
 refine pure_ (i := 4) (N := some 23) (v := ?_) (a' := ?_) #[true, true, true, true, true, false, false, false, false, false, false, false, false, false] rfl rfl (any_of HT_.out (by kernel_rfl)) (fun _ _ _ h => h) (Or.inl ⟨by rfl, ?_⟩) ?_ ?_
 rotate_left
 ·intro w'
  go_simp
  with_reducible rfl
 rotate_left
 ·simp only [Act.put, List.setIfInBounds_toArray, List.set_cons_zero, List.set_cons_succ, i64_w, i32_w]
  rfl
 refine take_ (i := 5) (N := some 24) (v := ?_) (a' := ?_) #[true, true, true, true, true, true, false, false, false, false, false, false, false, false] rfl rfl (take_ofW HT_.out HW_.out (by kernel_rfl)) (fun _ _ _ h => h) (Or.inl ⟨by rfl, ?_⟩) hHeld ?_ ?_
 rotate_left
 ·rintro w' ⟨s0, s1, s2, s3⟩
  go_simp
  with_reducible rfl
 rotate_left
 ·simp only [Act.put, List.setIfInBounds_toArray, List.set_cons_zero, List.set_cons_succ, i64_w, i32_w]
  rfl
 refine pure_ (i := 6) (N := some 25) (v := ?_) (a' := ?_) #[true, true, true, true, true, true, true, false, false, false, false, false, false, false] rfl rfl (any_of HT_.out (by kernel_rfl)) (fun _ _ _ h => h) (Or.inl ⟨by rfl, ?_⟩) ?_ ?_
 rotate_left
 ·intro w'
  go_simp
  with_reducible rfl
 rotate_left
 ·simp only [Act.put, List.setIfInBounds_toArray, List.set_cons_zero, List.set_cons_succ, i64_w, i32_w]
  rfl
 refine take_ (i := 7) (N := some 26) (v := ?_) (a' := ?_) #[true, true, true, true, true, true, true, true, false, false, false, false, false, false] rfl rfl (take_ofW HT_.out HW_.out (by kernel_rfl)) (fun _ _ _ h => h) (Or.inl ⟨by rfl, ?_⟩) hHeld ?_ ?_
 rotate_left
 ·rintro w' ⟨s0, s1, s2, s3⟩
  go_simp
  with_reducible rfl
 rotate_left
 ·simp only [Act.put, List.setIfInBounds_toArray, List.set_cons_zero, List.set_cons_succ, i64_w, i32_w]
  rfl
 refine pure_ (i := 8) (N := some 27) (v := ?_) (a' := ?_) #[true, true, true, true, true, true, true, true, true, false, false, false, false, false] rfl rfl (any_of HT_.out (by kernel_rfl)) (fun _ _ _ h => h) (Or.inl ⟨by rfl, ?_⟩) ?_ ?_
 rotate_left
 ·intro w'
  go_simp
  with_reducible rfl
 rotate_left
 ·simp only [Act.put, List.setIfInBounds_toArray, List.set_cons_zero, List.set_cons_succ, i64_w, i32_w]
  rfl
 refine pure_ (i := 9) (N := some 28) (v := ?_) (a' := ?_) #[true, true, true, true, true, true, true, true, true, true, false, false, false, false] rfl rfl (any_of HT_.out (by kernel_rfl)) (fun _ _ _ h => h) (Or.inl ⟨by rfl, ?_⟩) ?_ ?_
 rotate_left
 ·intro w'
  go_simp
  with_reducible rfl
 rotate_left
 ·simp only [Act.put, List.setIfInBounds_toArray, List.set_cons_zero, List.set_cons_succ, i64_w, i32_w]
  rfl
 refine join_ (σ := Value × Nat) 1 #[true, true, true, true, true, true, true, true, true, true, true, true, true, false] (fun s => [(29, s.1), (30, .agg #[.int .i64 e.f0.f0, .int .i64 e.f0.f1, .int .i64 e.f0.f2, .int .i64 e.f0.f3, s.1, .slice none 0 0]), (7, .pointer (some ⟨s.2, 0, none⟩))]) (fun s w' => Aside0 (Kd.R (Kd.int .i64) 3 w' w.heap.size (fun _ => True) s.1 e.f0.f4) ∧ Aside0 (w'.heap[s.2]? = some (.cells #[.int .i64 0, .int .i64 0, .int .i64 0, .int .i64 0, .slice none 0 0, .slice none 0 0] 25 (0, 0))) ∧ Aside0 (w.heap.size ≤ s.2) ∧ Aside0 (w'.heap[g4]? = some (.cells #[.int .i64 0, .int .i64 0, .int .i64 0, .int .i64 0, .slice none 0 0, .slice none 0 0] 25 (0, 0))) ∧ Aside0 (g4 ≠ s.2) ∧ Aside0 (Below w.heap.size w w')) (fun s w8 hF => ?_) (fun hC => ?_)
 rotate_left
 ·refine two_ (i := 10) (j := 12) (Ni := some 29) (Nj := some 7) #[true, true, true, true, true, true, true, true, true, true, true, false, false, false] #[true, true, true, true, true, true, true, true, true, true, false, false, true, false] rfl rfl rfl rfl (two_of HT_.out (by kernel_rfl)) (by decide) (by decide) (fun K hK => ?_) (fun K hK => ?_)
  ·refine goes_ Try.func19 (by kernel_rfl) rfl #[.pointer (some ⟨g, 0, none⟩), .int .i64 a] (by rfl) rfl rfl (by (try simp only [List.map_toArray, List.map_cons, List.map_nil]); first | done | rfl) ?_
   refine (names_ (some ⟨g, 0, none⟩) (knL [x] (-1) 0) (nmL [x]) a w7 ⟨by rw [nm_len, kn_len], Or.inr ⟨g, rfl, TT.out.below HM.out⟩⟩ (by rw [NM.out]; have := N5.out; omega)).mono ?_
   rintro e_ w8 ⟨vn, rfl, hr, hb⟩
   rw [NM.out] at hr
   obtain ⟨An, cn, en⟩ := Kd.R_slice hr
   subst en
   refine ⟨_, rfl, ?_⟩
   have RN := Aside0.mk (Kd.R_lower hr HM.out.size)
   have n_ := Aside0.mk (blk_below Bg5.out hb)
   clear Bg5
   have Bg5 := n_
   clear n_
   have n_ := Aside0.mk (blk_below Bg4.out hb)
   clear Bg4
   have Bg4 := n_
   clear n_
   have n_ := Aside0.mk (below_step HM.out hb)
   clear HM
   have HM := n_
   clear n_
   clear hb hr
   refine hK.out _ _ (held4 Bg5.out) (fun hHeld2 => ?_)
   clear hK K
   refine norm_ (a' := ?_) ?_ ?_
   rotate_left
   ·show Act.put _ (some 29) _ = _
    simp only [Act.put, List.setIfInBounds_toArray, List.set_cons_zero, List.set_cons_succ, i64_w, i32_w]
    rfl
   refine pure_ (i := 11) (N := some 30) (v := ?_) (a' := ?_) #[true, true, true, true, true, true, true, true, true, true, true, true, false, false] rfl rfl (any_of HT_.out (by kernel_rfl)) (fun _ _ _ h => h) (Or.inl ⟨by rfl, ?_⟩) ?_ ?_
   rotate_left
   ·intro w'
    go_simp
    with_reducible rfl
   rotate_left
   ·simp only [Act.put, List.setIfInBounds_toArray, List.set_cons_zero, List.set_cons_succ, i64_w, i32_w]
    rfl
   refine one_ (i := 12) (N := some 7) #[true, true, true, true, true, true, true, true, true, true, true, true, true, false] rfl rfl (one_of HT_.out (by kernel_rfl)) (by decide) (fun K hK => ?_)
   refine event_step (w1 := w8.alloc (.cells #[.int .i64 0, .int .i64 0, .int .i64 0, .int .i64 0, .slice none 0 0, .slice none 0 0] 25)) (v := .pointer (some ⟨w8.heap.size, 0, none⟩)) (by rfl) ?_ ?_
   ·first | (go_simp; done) | (go_simp; rfl)
   have NA := below_alloc (Below.refl w8.heap.size w8) (.cells #[.int .i64 0, .int .i64 0, .int .i64 0, .int .i64 0, .slice none 0 0, .slice none 0 0] 25)
   refine hK.out _ _ (held4 (blk_below Bg5.out NA)) (fun hHeld3 => ?_)
   clear hK K
   refine norm_ (a' := putAll _ _) ?_ (hC (.slice An e.f0.f4.length cn, w8.heap.size) _ ⟨⟨Kd.R_below RN.out NA⟩, ⟨blk_new _ _⟩, ⟨HM.out.size⟩, ⟨blk_below Bg4.out NA⟩, ⟨Nat.ne_of_lt (blk_lt Bg4.out)⟩, ⟨below_step HM.out NA⟩⟩)
   rfl
  ·refine event_step (w1 := w7.alloc (.cells #[.int .i64 0, .int .i64 0, .int .i64 0, .int .i64 0, .slice none 0 0, .slice none 0 0] 25)) (v := .pointer (some ⟨w7.heap.size, 0, none⟩)) (by rfl) ?_ ?_
   ·first | (go_simp; done) | (go_simp; rfl)
   have NA := below_alloc (Below.refl w7.heap.size w7) (.cells #[.int .i64 0, .int .i64 0, .int .i64 0, .int .i64 0, .slice none 0 0, .slice none 0 0] 25)
   have G7 : Aside0 (w.heap.size ≤ w7.heap.size) := ⟨HM.out.size⟩
   have NE7 : Aside0 (g4 ≠ w7.heap.size) := ⟨Nat.ne_of_lt (blk_lt Bg4.out)⟩
   have B7 : Aside0 ((w7.alloc (.cells #[.int .i64 0, .int .i64 0, .int .i64 0, .int .i64 0, .slice none 0 0, .slice none 0 0] 25)).heap[w7.heap.size]? = some (.cells #[.int .i64 0, .int .i64 0, .int .i64 0, .int .i64 0, .slice none 0 0, .slice none 0 0] 25 (0, 0))) := ⟨blk_new _ _⟩
   have n_ := Aside0.mk (blk_below Bg5.out NA)
   clear Bg5
   have Bg5 := n_
   clear n_
   have n_ := Aside0.mk (blk_below Bg4.out NA)
   clear Bg4
   have Bg4 := n_
   clear n_
   have n_ := Aside0.mk (below_step HM.out NA)
   clear HM
   have HM := n_
   clear n_
   clear NA
   refine hK.out _ _ (held4 Bg5.out) (fun hHeld2 => ?_)
   clear hK K
   refine norm_ (a' := ?_) ?_ ?_
   rotate_left
   ·show Act.put _ (some 7) _ = _
    simp only [Act.put, List.setIfInBounds_toArray, List.set_cons_zero, List.set_cons_succ, i64_w, i32_w]
    rfl
   refine one_ (i := 10) (N := some 29) #[true, true, true, true, true, true, true, true, true, true, true, false, true, false] rfl rfl (one_of HT_.out (by kernel_rfl)) (by decide) (fun K hK => ?_)
   generalize w7.heap.size = g7 at G7 NE7 B7 ⊢
   generalize w7.alloc (.cells #[.int .i64 0, .int .i64 0, .int .i64 0, .int .i64 0, .slice none 0 0, .slice none 0 0] 25) = w9 at B7 Bg5 Bg4 HM hHeld2 ⊢
   refine goes_ Try.func19 (by kernel_rfl) rfl #[.pointer (some ⟨g, 0, none⟩), .int .i64 a] (by rfl) rfl rfl (by (try simp only [List.map_toArray, List.map_cons, List.map_nil]); first | done | rfl) ?_
   refine (names_ (some ⟨g, 0, none⟩) (knL [x] (-1) 0) (nmL [x]) a w9 ⟨by rw [nm_len, kn_len], Or.inr ⟨g, rfl, TT.out.below HM.out⟩⟩ (by rw [NM.out]; have := N5.out; omega)).mono ?_
   rintro e_ w8 ⟨vn, rfl, hr, hb⟩
   rw [NM.out] at hr
   obtain ⟨An, cn, en⟩ := Kd.R_slice hr
   subst en
   refine ⟨_, rfl, ?_⟩
   have RN := Aside0.mk (Kd.R_lower hr HM.out.size)
   have n_ := Aside0.mk (blk_below B7.out hb)
   clear B7
   have B7 := n_
   clear n_
   have n_ := Aside0.mk (blk_below Bg5.out hb)
   clear Bg5
   have Bg5 := n_
   clear n_
   have n_ := Aside0.mk (blk_below Bg4.out hb)
   clear Bg4
   have Bg4 := n_
   clear n_
   have n_ := Aside0.mk (below_step HM.out hb)
   clear HM
   have HM := n_
   clear n_
   clear hb hr
   refine hK.out _ _ (held4 Bg5.out) (fun hHeld3 => ?_)
   clear hK K
   refine norm_ (a' := ?_) ?_ ?_
   rotate_left
   ·show Act.put _ (some 29) _ = _
    simp only [Act.put, List.setIfInBounds_toArray, List.set_cons_zero, List.set_cons_succ, i64_w, i32_w]
    rfl
   refine pure_ (i := 11) (N := some 30) (v := ?_) (a' := ?_) #[true, true, true, true, true, true, true, true, true, true, true, true, true, false] rfl rfl (any_of HT_.out (by kernel_rfl)) (fun _ _ _ h => h) (Or.inl ⟨by rfl, ?_⟩) ?_ ?_
   rotate_left
   ·intro w'
    go_simp
    with_reducible rfl
   rotate_left
   ·simp only [Act.put, List.setIfInBounds_toArray, List.set_cons_zero, List.set_cons_succ, i64_w, i32_w]
    rfl
   refine norm_ (a' := putAll _ _) ?_ (hC (.slice An e.f0.f4.length cn, g7) _ ⟨RN, B7, G7, Bg4, NE7, HM⟩)
   rfl
 clear hHeld Bg4 Bg5 HM
 obtain ⟨v4, g7⟩ := s
 obtain ⟨RN, B7, G7, Bg4, NE7, HM⟩ := hF
 simp only at RN B7 G7 NE7
 obtain ⟨An, cn, en⟩ := Kd.R_slice RN.out
 subst en
 refine norm_ (a' := ?_) ?_ ?_
 rotate_left
 ·simp only [putAll, Act.put, List.setIfInBounds_toArray, List.set_cons_zero, List.set_cons_succ, i64_w, i32_w]
  rfl
 have z0 : w8.cell? ⟨g7, 0, none⟩ = some (.int .i64 0) := (blk_cell B7.out 0).trans rfl; have zf0 := blk_frozen B7.out 0; have z1 : w8.cell? ⟨g7, 1, none⟩ = some (.int .i64 0) := (blk_cell B7.out 1).trans rfl; have zf1 := blk_frozen B7.out 1; have z2 : w8.cell? ⟨g7, 2, none⟩ = some (.int .i64 0) := (blk_cell B7.out 2).trans rfl; have zf2 := blk_frozen B7.out 2; have z3 : w8.cell? ⟨g7, 3, none⟩ = some (.int .i64 0) := (blk_cell B7.out 3).trans rfl; have zf3 := blk_frozen B7.out 3; have z4 : w8.cell? ⟨g7, 4, none⟩ = some (.slice none 0 0) := (blk_cell B7.out 4).trans rfl; have zf4 := blk_frozen B7.out 4; have z5 : w8.cell? ⟨g7, 5, none⟩ = some (.slice none 0 0) := (blk_cell B7.out 5).trans rfl; have zf5 := blk_frozen B7.out 5
 refine last_ (i := 13) (N := none) #[true, true, true, true, true, true, true, true, true, true, true, true, true, true] rfl rfl (one_of HT_.out (by kernel_rfl)) (by decide) (fun K hK => ?_)
 refine skip_ (w1 := ((((((w8.setCell ⟨g7, 0, none⟩ (.int .i64 e.f0.f0)).setCell ⟨g7, 1, none⟩ (.int .i64 e.f0.f1)).setCell ⟨g7, 2, none⟩ (.int .i64 e.f0.f2)).setCell ⟨g7, 3, none⟩ (.int .i64 e.f0.f3)).setCell ⟨g7, 4, none⟩ (.slice An e.f0.f4.length cn)).setCell ⟨g7, 5, none⟩ (.slice none 0 0))) (by rfl) rfl ?_ ?_
 ·first | (go_simp; done) | (go_simp; rfl)
 clear z0 z1 z2 z3 z4 z5 zf0 zf1 zf2 zf3 zf4 zf5
 obtain ⟨q1, q2, q3, q4, q5⟩ := store6 (.int .i64 e.f0.f0) (.int .i64 e.f0.f1) (.int .i64 e.f0.f2) (.int .i64 e.f0.f3) (.slice An e.f0.f4.length cn) (.slice none 0 0) B7.out rfl
 have n1_ := Aside0.mk q1
 have n2_ := Aside0.mk (q2 w G7.out HM.out)
 have n3_ := Aside0.mk (q3 _ _ _ _ RN.out)
 have n5_ := Aside0.mk (q5 _ _ _ NE7.out Bg4.out)
 clear q1 q2 q3 q4 q5 B7 HM RN Bg4
 have B7 := n1_
 have HM := n2_
 have RN := n3_
 have Bg4 := n5_
 clear n1_ n2_ n3_ n5_
 generalize ((((((w8.setCell ⟨g7, 0, none⟩ (.int .i64 e.f0.f0)).setCell ⟨g7, 1, none⟩ (.int .i64 e.f0.f1)).setCell ⟨g7, 2, none⟩ (.int .i64 e.f0.f2)).setCell ⟨g7, 3, none⟩ (.int .i64 e.f0.f3)).setCell ⟨g7, 4, none⟩ (.slice An e.f0.f4.length cn)).setCell ⟨g7, 5, none⟩ (.slice none 0 0)) = w10 at B7 HM RN Bg4 ⊢
 refine hK.out _ _ ?_
 clear hK K
 refine done_ (done_of HT_.out (by kernel_rfl)) ?_
 clear HT_ HW_ hu25 hu39
 as_aux_lemma =>
 go_wp2_with (first | (go_at_call 16; refine (kids_ (some ⟨g, 0, none⟩) (knL [x] (-1) 0) (nmL [x]) a kl _ ⟨by rw [nm_len, kn_len], Or.inr ⟨g, rfl, (TT.out.below (by repeat (first | (with_reducible first | exact HM.out | apply below_alloc | apply pw_below_drewN | apply below_drew1) | exact HM.out)))⟩⟩ (by have := KL.out; omega) (fun _ => CK.out) (fun h => absurd (KV.out.2.symm.trans h) (by decide))).mono ?_; rintro e_ w11 ⟨vk, rfl, hr, hb⟩; obtain ⟨Ak, ck, ek⟩ := Kd.R_slice hr; subst ek; have RK := Aside0.mk (Kd.R_lower hr HM.out.size); have n_ := Aside0.mk (blk_below B7.out hb); clear B7; have B7 := n_; clear n_; have n_ := Aside0.mk (blk_below Bg4.out hb); clear Bg4; have Bg4 := n_; clear n_; have n_ := Aside0.mk (Kd.R_below RN.out hb); clear RN; have RN := n_; clear n_; have n_ := Aside0.mk (below_step (by repeat (first | (with_reducible first | exact HM.out | apply below_alloc | apply pw_below_drewN | apply below_drew1) | exact HM.out)) hb); clear HM; have HM := n_; clear n_; clear hb hr))
 go_loopg [35] (kl.length + 1) (fun kq v35 w' => ∃ (j : Nat) (b : Int) (v5 : Value), v35 = .int .i64 b ∧ Aside0 (b = (j : Int)) ∧ Aside0 (kq + j = kl.length + 1 ∧ j ≤ kl.length) ∧ Aside0 (w'.heap[g7]? = some (.cells #[.int .i64 e.f0.f0, .int .i64 e.f0.f1, .int .i64 e.f0.f2, .int .i64 e.f0.f3, .slice An e.f0.f4.length cn, v5] 25 (0, 0))) ∧ Aside0 (Kd.R (Kd.int .i64) 3 w' w.heap.size (fun _ => True) (.slice An e.f0.f4.length cn) e.f0.f4) ∧ Aside0 (Kd.R k25 25 w' w.heap.size (fun k => k ≠ g7 ∧ k ≠ g4) v5 (e.f0.f5.take j)) ∧ Aside0 (Kd.R (Kd.int .i64) 3 w' w.heap.size (fun _ => True) (.slice Ak kl.length ck) kl) ∧ Aside0 (w'.heap[g4]? = some (.cells #[.int .i64 0, .int .i64 0, .int .i64 0, .int .i64 0, .slice none 0 0, .slice none 0 0] 25 (0, 0))) ∧ Aside0 (Below w.heap.size w w'))
 case atStart => exact ⟨0, 0, .slice none 0 0, rfl, ⟨rfl⟩, ⟨⟨by omega, by omega⟩⟩, B7, RN, ⟨by rw [List.take_zero]; exact Kd.R_nil _ _ _ _ _⟩, RK, Bg4, HM⟩
 case round =>
  clear B7 RN RK Bg4 HM
  obtain ⟨j, b, v5, rfl, HJ, HK, B7, RN, R5, RK, Bg4, HM⟩ := hrel
  obtain ⟨A5, c5, e5⟩ := Kd.R_slice R5.out
  subst e5
  cases gk with
  | zero => have := HK.out; omega
  | succ k1 =>
   by_cases cc : b < (kl.length : Int)
   ·have c0b : decide (b < (kl.length : Int)) = true := decide_eq_true cc
    have hj : j < kl.length := by have := HJ.out; omega
    have p1 : (0 : Int) ≤ b := by have := HJ.out; omega
    have q1 : b < (kl.length : Int) := cc
    obtain ⟨ax, eax, xk⟩ := Kd.at_int (Kd.R_reads' RK.out).2.2 b p1 q1
    subst eax
    obtain ⟨kk, hkk⟩ : ∃ kk, kl[j]? = some kk := ⟨kl[j], List.getElem?_eq_getElem hj⟩
    have hrd : rd kl b = kk := by unfold rd; rw [HJ.out, Int.toNat_natCast, List.getD_eq_getElem?_getD, hkk]; rfl
    rw [hrd] at xk
    obtain ⟨e2, m2, hm2, hf2, hn2⟩ := KF.out j kk hkk
    have EM2 := Aside0.mk hm2
    have NO2 := Aside0.mk hn2
    have TK2 : Aside0 (e.f0.f5.take (j + 1) = e.f0.f5.take j ++ [e2.f0]) := ⟨take1 hf2⟩
    have SZ2 : Aside0 (SizeOf.sizeOf e2.f0 < N) := ⟨by have h1_ := szx e.f0; have h2_ := List.sizeOf_lt_of_mem (List.mem_of_getElem? hf2); have h3_ := HZ.out; omega⟩
    have LT5 : Aside0 ((e.f0.f5.take j).length ≤ 1000) := ⟨by rw [List.length_take]; have := KL.out; have := HK.out; omega⟩
    have ew : wrap64 (b + 1) = b + 1 := wid (by have := HJ.out; omega) (by have := HJ.out; have := KL.out; omega)
    replace p1 := eq_true p1
    replace q1 := eq_true q1
    clear hrd hkk cc hm2 hf2 hn2
    go_upto_region 8 with (first | fail)
    refine start_ (n := 9) (S := fun w' => w'.cell? ⟨g7, 5, none⟩ = some (.slice A5 (e.f0.f5.take j).length c5)) (ds := [8]) #[false, false, false, false, false, false, false, false, false] (by kernel_rfl) rfl rfl ((blk_cell (blk_drew B7.out) 5).trans rfl) (fun hHeld => ?_)
    refine with_tabW R23b.tab R23b.bits (fun HT_ HW_ => ?_)
    have n_ := Aside0.mk (blk_drew B7.out)
    clear B7
    have B7 := n_
    clear n_
    have n_ := Aside0.mk (Kd.R_below RN.out (below_drew1 (Below.refl _ _)))
    clear RN
    have RN := n_
    clear n_
    have n_ := Aside0.mk (Kd.R_below R5.out (below_drew1 (Below.refl _ _)))
    clear R5
    have R5 := n_
    clear n_
    have n_ := Aside0.mk (Kd.R_below RK.out (below_drew1 (Below.refl _ _)))
    clear RK
    have RK := n_
    clear n_
    have n_ := Aside0.mk (blk_drew Bg4.out)
    clear Bg4
    have Bg4 := n_
    clear n_
    have n_ := Aside0.mk (below_drew1 HM.out)
    clear HM
    have HM := n_
    clear n_
    generalize wr.drew = w12 at B7 RN R5 RK Bg4 HM hHeld ⊢
    refine pure_ (i := 0) (N := some 39) (v := ?_) (a' := ?_) #[true, false, false, false, false, false, false, false, false] rfl rfl (any_of HT_.out (by kernel_rfl)) (fun _ _ _ h => h) (Or.inl ⟨by rfl, ?_⟩) ?_ ?_
    rotate_left
    ·intro w'
     go_simp
     with_reducible rfl
    rotate_left
    ·simp only [Act.put, List.setIfInBounds_toArray, List.set_cons_zero, List.set_cons_succ, i64_w, i32_w]
     rfl
    refine take_ (i := 1) (N := some 40) (v := ?_) (a' := ?_) #[true, true, false, false, false, false, false, false, false] rfl rfl (take_ofW HT_.out HW_.out (by kernel_rfl)) (fun _ _ _ h => h) (Or.inl ⟨by rfl, ?_⟩) hHeld ?_ ?_
    rotate_left
    ·rintro w' s0
     go_simp
     with_reducible rfl
    rotate_left
    ·simp only [Act.put, List.setIfInBounds_toArray, List.set_cons_zero, List.set_cons_succ, i64_w, i32_w]
     rfl
    refine pure_ (i := 2) (N := some 41) (v := ?_) (a' := ?_) #[true, true, true, false, false, false, false, false, false] rfl rfl (any_of HT_.out (by kernel_rfl)) (fun _ _ _ h => h) (Or.inl ⟨by rfl, ?_⟩) ?_ ?_
    rotate_left
    ·intro w'
     go_simp
     with_reducible rfl
    rotate_left
    ·simp only [Act.put, List.setIfInBounds_toArray, List.set_cons_zero, List.set_cons_succ, i64_w, i32_w]
     rfl
    refine pure_ (i := 3) (N := some 42) (v := ?_) (a' := ?_) #[true, true, true, true, false, false, false, false, false] rfl rfl (any_of HT_.out (by kernel_rfl)) (fun _ _ _ h => h) (Or.inl ⟨by rfl, ?_⟩) ?_ ?_
    rotate_left
    ·intro w'
     go_simp
     with_reducible rfl
    rotate_left
    ·simp only [Act.put, List.setIfInBounds_toArray, List.set_cons_zero, List.set_cons_succ, i64_w, i32_w]
     rfl
    refine one_ (i := 4) (N := some 43) #[true, true, true, true, true, false, false, false, false] rfl rfl (one_of HT_.out (by kernel_rfl)) (by decide) (fun K hK => ?_)
    refine goes_ Try.func23 (by kernel_rfl) rfl #[.pointer (some ⟨g, 0, none⟩), .int .i64 kk] (by rfl) rfl rfl (by (try simp only [List.map_toArray, List.map_cons, List.map_nil]); first | done | rfl) ?_
    refine (IH.out e2 m2 kk g w12 SZ2.out EM2.out NO2.out (TT.out.below HM.out)).mono ?_
    rintro e_ w13 ⟨u4, u5, rfl, hr4, hr5, hb⟩
    obtain ⟨B4, d4, q4⟩ := Kd.R_slice hr4
    obtain ⟨B5, d5, q5⟩ := Kd.R_slice hr5
    subst q4
    subst q5
    refine ⟨_, rfl, ?_⟩
    have OKP : Aside0 (∀ k, w12.heap.size ≤ k → (k ≠ g7 ∧ k ≠ g4) ∧ some k ≠ (Value.slice A5 (e.f0.f5.take j).length c5).ownBlock) := ⟨fun k hk => ⟨⟨fun h => by have := blk_lt B7.out; omega, fun h => by have := blk_lt Bg4.out; omega⟩, fun h => by have := ((Kd.R_bound R5.out).1 k h.symm).2.2.1; omega⟩⟩
    have HP := Aside0.mk (k25_mkM w13 w.heap.size (fun k => w12.heap.size ≤ k) e2.f0 (Kd.R_lower (Kd.R_mono (Kd.R_bound hr4) (fun k hk => hk.2.1)) HM.out.size) (Kd.R_lower (Kd.R_mono (Kd.R_bound hr5) (fun k hk => hk.2.1)) HM.out.size))
    have SZW : Aside0 (w12.heap.size ≤ w13.heap.size) := ⟨hb.size⟩
    have n_ := Aside0.mk (blk_below B7.out hb)
    clear B7
    have B7 := n_
    clear n_
    have n_ := Aside0.mk (Kd.R_below RN.out hb)
    clear RN
    have RN := n_
    clear n_
    have n_ := Aside0.mk (Kd.R_below R5.out hb)
    clear R5
    have R5 := n_
    clear n_
    have n_ := Aside0.mk (Kd.R_below RK.out hb)
    clear RK
    have RK := n_
    clear n_
    have n_ := Aside0.mk (blk_below Bg4.out hb)
    clear Bg4
    have Bg4 := n_
    clear n_
    have n_ := Aside0.mk (below_step HM.out hb)
    clear HM
    have HM := n_
    clear n_
    clear hb hr4 hr5
    refine hK.out _ _ ((blk_cell B7.out 5).trans rfl) (fun hHeld2 => ?_)
    clear hK K
    refine norm_ (a' := ?_) ?_ ?_
    rotate_left
    ·show Act.put _ (some 43) _ = _
     simp only [Act.put, List.setIfInBounds_toArray, List.set_cons_zero, List.set_cons_succ, i64_w, i32_w]
     rfl
    refine one_ (i := 5) (N := some 44) #[true, true, true, true, true, true, false, false, false] rfl rfl (one_of HT_.out (by kernel_rfl)) (by decide) (fun K hK => ?_)
    refine event_step (w1 := w13.alloc (.cells #[.int .i64 e2.f0.f0, .int .i64 e2.f0.f1, .int .i64 e2.f0.f2, .int .i64 e2.f0.f3, .slice B4 e2.f0.f4.length d4, .slice B5 e2.f0.f5.length d5] 25)) (v := .slice (some ⟨w13.heap.size, 0, none⟩) 1 1) (by rfl) ?_ ?_
    ·exact build25 _ _ _ rfl _ _ _ _ _ _ ⟨_, _, _, rfl⟩ ⟨_, _, _, rfl⟩ rfl
    refine hK.out _ _ ((blk_cell (blk_below B7.out (below_alloc (Below.refl _ _) _)) 5).trans rfl) (fun hHeld3 => ?_)
    clear hK K
    refine norm_ (a' := ?_) ?_ ?_
    rotate_left
    ·show Act.put _ (some 44) _ = _
     simp only [Act.put, List.setIfInBounds_toArray, List.set_cons_zero, List.set_cons_succ, i64_w, i32_w]
     rfl
    refine one_ (i := 6) (N := some 45) #[true, true, true, true, true, true, true, false, false] rfl rfl (one_of HT_.out (by kernel_rfl)) (by decide) (fun K hK => ?_)
    refine Kd.R_append_step k25 (w0 := w) w.heap.size (by rfl) (.tmp 40) (.tmp 44) 23 25 (.agg #[.int .i64 0, .int .i64 0, .int .i64 0, .int .i64 0, .slice none 0 0, .slice none 0 0]) 80 rfl Try.underlying23 info25 rfl (by decide) (by omega) (.slice A5 (e.f0.f5.take j).length c5) (e.f0.f5.take j) e2.f0 [.int .i64 e2.f0.f0, .int .i64 e2.f0.f1, .int .i64 e2.f0.f2, .int .i64 e2.f0.f3, .slice B4 e2.f0.f4.length d4, .slice B5 e2.f0.f5.length d5] (fun k => k ≠ g7 ∧ k ≠ g4) (fun k => w12.heap.size ≤ k) (by first | rfl | (go_simp; done) | (go_simp; rfl)) (by first | rfl | (go_simp; done) | (go_simp; rfl)) HP.out OKP.out (fun k hk => (OKP.out k (Nat.le_trans SZW.out hk)).1) R5.out HM.out HM.out.size (by have := LT5.out; omega) ?_
    intro v1 w14 hr1 hb1 hg1 _
    have O5 := R5.out
    have n1_ := Aside0.mk (blk_grown B7.out hg1 (fun e_ => (O5.1 g7 e_.symm).1 rfl))
    have n2_ := Aside0.mk (Kd.R_over' RN.out (Kd.R_typed O5) (by decide) hg1)
    have n3_ := Aside0.mk (Kd.R_over' RK.out (Kd.R_typed O5) (by decide) hg1)
    have n4_ := Aside0.mk (blk_grown Bg4.out hg1 (fun e_ => (O5.1 g4 e_.symm).2 rfl))
    rw [← TK2.out] at hr1
    obtain ⟨A6, c6, e6⟩ := Kd.R_slice hr1
    subst e6
    clear B7 RN RK Bg4 R5 HM O5 hg1 HP OKP SZW
    have B7 := n1_
    have RN := n2_
    have RK := n3_
    have Bg4 := n4_
    have R5 := Aside0.mk hr1
    have HM := Aside0.mk hb1
    clear n1_ n2_ n3_ n4_ hr1 hb1
    refine hK.out _ _ ((blk_cell B7.out 5).trans rfl) (fun hHeld4 => ?_)
    clear hK K
    refine norm_ (a' := ?_) ?_ ?_
    rotate_left
    ·show Act.put _ (some 45) _ = _
     simp only [Act.put, List.setIfInBounds_toArray, List.set_cons_zero, List.set_cons_succ, i64_w, i32_w]
     rfl
    refine pure_ (i := 7) (N := some 46) (v := ?_) (a' := ?_) #[true, true, true, true, true, true, true, true, false] rfl rfl (any_of HT_.out (by kernel_rfl)) (fun _ _ _ h => h) (Or.inl ⟨by rfl, ?_⟩) ?_ ?_
    rotate_left
    ·intro w'
     go_simp
     with_reducible rfl
    rotate_left
    ·simp only [Act.put, List.setIfInBounds_toArray, List.set_cons_zero, List.set_cons_succ, i64_w, i32_w]
     rfl
    have z5 : w14.cell? ⟨g7, 5, none⟩ = some (.slice A5 (e.f0.f5.take j).length c5) := (blk_cell B7.out 5).trans rfl
    have zf5 := blk_frozen B7.out 5
    refine last_ (i := 8) (N := none) #[true, true, true, true, true, true, true, true, true] rfl rfl (one_of HT_.out (by kernel_rfl)) (by decide) (fun K hK => ?_)
    refine skip_ (w1 := w14.setCell ⟨g7, 5, none⟩ (.slice A6 (e.f0.f5.take (j + 1)).length c6)) (by rfl) rfl ?_ ?_
    ·first | (go_simp; done) | (go_simp; rfl)
    have n2_ := Aside0.mk (Kd.R_set RN.out B7.out e3n 5 (.slice A6 (e.f0.f5.take (j + 1)).length c6))
    have n3_ := Aside0.mk (Kd.R_set RK.out B7.out e3n 5 (.slice A6 (e.f0.f5.take (j + 1)).length c6))
    have n4_ := Aside0.mk (blk_far (p := ⟨g7, 5, none⟩) Bg4.out NE7.out (.slice A6 (e.f0.f5.take (j + 1)).length c6))
    have n5_ := Aside0.mk (Kd.R_far (p := ⟨g7, 5, none⟩) R5.out (fun _ h => h.1) (.slice A6 (e.f0.f5.take (j + 1)).length c6))
    have n6_ := Aside0.mk (below_set HM.out G7.out (v := .slice A6 (e.f0.f5.take (j + 1)).length c6) (j := 5))
    have n1_ : Aside0 ((w14.setCell ⟨g7, 5, none⟩ (.slice A6 (e.f0.f5.take (j + 1)).length c6)).heap[g7]? = some (.cells #[.int .i64 e.f0.f0, .int .i64 e.f0.f1, .int .i64 e.f0.f2, .int .i64 e.f0.f3, .slice An e.f0.f4.length cn, .slice A6 (e.f0.f5.take (j + 1)).length c6] 25 (0, 0))) := ⟨blk_put B7.out 5 _ rfl⟩
    clear B7 RN RK Bg4 R5 HM z5 zf5
    generalize w14.setCell ⟨g7, 5, none⟩ (.slice A6 (e.f0.f5.take (j + 1)).length c6) = w15 at n1_ n2_ n3_ n4_ n5_ n6_ ⊢
    refine hK.out _ _ ?_
    clear hK K
    refine done_ (done_of HT_.out (by kernel_rfl)) ?_
    clear hHeld hHeld2 hHeld3 hHeld4 HT_ HW_
    go_wp2
    go_roundg k1
    case measure => omega
    case rel => exact ⟨j + 1, b + 1, _, by first | rfl | rw [ew], ⟨by rw [HJ.out]; rfl⟩, ⟨by have := HK.out; omega⟩, n1_, n2_, n5_, n3_, n4_, n6_⟩
   ·have c0b : decide (b < (kl.length : Int)) = false := decide_eq_false cc
    have TJ : Aside0 (e.f0.f5.take j = e.f0.f5) := ⟨List.take_of_length_le (by have := HJ.out; have := KE.out; omega)⟩
    rw [TJ.out] at R5 B7
    have y0 : wr.cell? ⟨g7, 0, none⟩ = some (.int .i64 e.f0.f0) := (blk_cell B7.out 0).trans rfl; have yf0 := blk_frozen B7.out 0; have y1 : wr.cell? ⟨g7, 1, none⟩ = some (.int .i64 e.f0.f1) := (blk_cell B7.out 1).trans rfl; have yf1 := blk_frozen B7.out 1; have y2 : wr.cell? ⟨g7, 2, none⟩ = some (.int .i64 e.f0.f2) := (blk_cell B7.out 2).trans rfl; have yf2 := blk_frozen B7.out 2; have y3 : wr.cell? ⟨g7, 3, none⟩ = some (.int .i64 e.f0.f3) := (blk_cell B7.out 3).trans rfl; have yf3 := blk_frozen B7.out 3; have y4 : wr.cell? ⟨g7, 4, none⟩ = some (.slice An e.f0.f4.length cn) := (blk_cell B7.out 4).trans rfl; have yf4 := blk_frozen B7.out 4; have y5 : wr.cell? ⟨g7, 5, none⟩ = some (.slice A5 e.f0.f5.length c5) := (blk_cell B7.out 5).trans rfl; have yf5 := blk_frozen B7.out 5
    have z0 : wr.cell? ⟨g4, 0, none⟩ = some (.int .i64 0) := (blk_cell Bg4.out 0).trans rfl; have zf0 := blk_frozen Bg4.out 0; have z1 : wr.cell? ⟨g4, 1, none⟩ = some (.int .i64 0) := (blk_cell Bg4.out 1).trans rfl; have zf1 := blk_frozen Bg4.out 1; have z2 : wr.cell? ⟨g4, 2, none⟩ = some (.int .i64 0) := (blk_cell Bg4.out 2).trans rfl; have zf2 := blk_frozen Bg4.out 2; have z3 : wr.cell? ⟨g4, 3, none⟩ = some (.int .i64 0) := (blk_cell Bg4.out 3).trans rfl; have zf3 := blk_frozen Bg4.out 3; have z4 : wr.cell? ⟨g4, 4, none⟩ = some (.slice none 0 0) := (blk_cell Bg4.out 4).trans rfl; have zf4 := blk_frozen Bg4.out 4; have z5 : wr.cell? ⟨g4, 5, none⟩ = some (.slice none 0 0) := (blk_cell Bg4.out 5).trans rfl; have zf5 := blk_frozen Bg4.out 5
    have G4 := Gg4
    obtain ⟨q1, q2, q3, q4, q5⟩ := store6 (.int .i64 e.f0.f0) (.int .i64 e.f0.f1) (.int .i64 e.f0.f2) (.int .i64 e.f0.f3) (.slice An e.f0.f4.length cn) (.slice A5 e.f0.f5.length c5) Bg4.out rfl
    have n1_ := Aside0.mk q1
    have n2_ := Aside0.mk (q2 w G4.out HM.out)
    have n3_ := Aside0.mk (q3 _ _ _ _ RN.out)
    have n4_ := Aside0.mk (q4 _ _ _ _ (fun k hk => hk.2) R5.out)
    clear q1 q2 q3 q4 q5 cc TJ
    go_wp2
    refine bodyPost_ret (results_single (r := .cell 4 25) rfl (.cell g4 25 #[.int .i64 e.f0.f0, .int .i64 e.f0.f1, .int .i64 e.f0.f2, .int .i64 e.f0.f3, .slice An e.f0.f4.length cn, .slice A5 e.f0.f5.length c5] (0, 0) _ rfl n1_.out Try.underlying25 rfl (by kernel_rfl) .nil)) rfl ?_
    exact ⟨_, _, rfl, n3_.out, Kd.R_mono n4_.out (fun _ _ => trivial), n2_.out⟩
theorem branch_ (x : S25) (hx : szL [x] ≤ 150) (hn5 : nmT [x] ≤ 500) : ∀ N, BranchAt x N
 | 0 => fun e n a g w h => absurd h (Nat.not_lt_zero _)
 | N + 1 => branchS x hx hn5 N (branch_ x hx hn5 N)
end Go.Proofs.Ytemdnmidhmddlaa.Tree
