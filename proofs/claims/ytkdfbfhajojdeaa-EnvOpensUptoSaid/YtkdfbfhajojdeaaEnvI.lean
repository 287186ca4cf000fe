/- The chapter's example, walked. Conditions: as the theorems say. -/
import Derived.Test.YtkdfbfhajojdeaaEnvH
namespace Go.Proofs.Ytkdfbfhajojdeaa.Env
open Go Go.RowKit Go.Proofs.YtkdfbfhajojdeaaW.PrintWords Go.Proofs.YtkdfbfhajojdeaaW.PrintLast Go.Proofs.YtkdfbfhajojdeaaW.PrintMore Go.Proofs.Ytkdfbfhajojdeaa.POP
attribute [local go_sem high] eqA28
set_option linter.unusedVariables false
set_option linter.unusedSimpArgs false
def e1 : Nd := ⟨⟨1, ⟨#[120]⟩⟩, 1, 0, none, none⟩
def e2 : Nd := ⟨⟨1, ⟨#[121]⟩⟩, 2, 0, none, none⟩
def e3 : Nd := ⟨⟨1, ⟨#[120]⟩⟩, 3, 0, none, none⟩
theorem ex_vis (g1 g2 g3 : Nat) : visC [(g3, e3), (g2, e2), (g1, e1)] = [(g3, e3), (g2, e2)] := by
  simp [visC, selC, decV, keyEq, toList_eq, e1, e2, e3]
theorem ex_vis2 (g2 g3 : Nat) : visC [(g3, e3), (g2, e2)] = [(g3, e3), (g2, e2)] := by
  simp [visC, selC, decV, keyEq, toList_eq, e1, e2, e3]
theorem ex_find (g1 g2 g3 : Nat) : find ⟨1, ⟨#[120]⟩⟩ [(g3, e3), (g2, e2), (g1, e1)] = some e3 := by
  simp [find, toList_eq, e3]
theorem wf1 : wfK e1.k := ⟨by decide, by decide⟩
theorem wf2 : wfK e2.k := ⟨by decide, by decide⟩
theorem held9 {gk gx gy gi : Nat} {w w' : World} (h : w.cell? ⟨gk, 0, none⟩ = some (.int .i64 1) ∧ w.cell? ⟨gk, 1, none⟩ = some (.string ⟨#[121]⟩) ∧ w.cell? ⟨gk, 2, none⟩ = some (.int .i64 1) ∧ w.cell? ⟨gk, 3, none⟩ = some (.string ⟨#[120]⟩) ∧ w.cell? ⟨gx, 0, none⟩ = some (.int .i64 1) ∧ w.cell? ⟨gx, 1, none⟩ = some (.string ⟨#[120]⟩) ∧ w.cell? ⟨gy, 0, none⟩ = some (.int .i64 1) ∧ w.cell? ⟨gy, 1, none⟩ = some (.string ⟨#[121]⟩) ∧ w.cell? ⟨gi, 0, none⟩ = some (.int .i64 3)) (hb : Below w.heap.size w w') : w'.cell? ⟨gk, 0, none⟩ = some (.int .i64 1) ∧ w'.cell? ⟨gk, 1, none⟩ = some (.string ⟨#[121]⟩) ∧ w'.cell? ⟨gk, 2, none⟩ = some (.int .i64 1) ∧ w'.cell? ⟨gk, 3, none⟩ = some (.string ⟨#[120]⟩) ∧ w'.cell? ⟨gx, 0, none⟩ = some (.int .i64 1) ∧ w'.cell? ⟨gx, 1, none⟩ = some (.string ⟨#[120]⟩) ∧ w'.cell? ⟨gy, 0, none⟩ = some (.int .i64 1) ∧ w'.cell? ⟨gy, 1, none⟩ = some (.string ⟨#[121]⟩) ∧ w'.cell? ⟨gi, 0, none⟩ = some (.int .i64 3) :=
  have k : ∀ (g o : Nat) (v : Value), w.cell? ⟨g, o, none⟩ = some v → w'.cell? ⟨g, o, none⟩ = some v := fun g o v h => (hb.cell (World.block_lt_of_cell? w _ h)).trans h
  ⟨k _ _ _ h.1, k _ _ _ h.2.1, k _ _ _ h.2.2.1, k _ _ _ h.2.2.2.1, k _ _ _ h.2.2.2.2.1, k _ _ _ h.2.2.2.2.2.1, k _ _ _ h.2.2.2.2.2.2.1, k _ _ _ h.2.2.2.2.2.2.2.1, k _ _ _ h.2.2.2.2.2.2.2.2⟩
set_option maxHeartbeats 8000000 in
set_option maxRecDepth 100000 in
theorem alive (w : World) : Calls Try.prog 6 #[] w fun e w' => e = .returned (.bool true) ∧ Below w.heap.size w w' := by
  have hu28 := Try.underlying28
  have hu41 := Try.underlying41
  have HM := Aside0.mk (Below.refl w.heap.size w)
  go_enter Try.func6, Try.ntmps6
  go_wp2_with (first | ((with_reducible refine gate_dst (N := 1) rfl ?_); refine box_event ?hg (N := 1) ?hd (cs := #[.int .i64 0, .string (⟨#[]⟩ : ByteArray)]) (t := 28) ?hr ?_; (case hd => rfl); (case hg => rfl); (case hr => first | (go_simp; done) | (go_simp; rfl)); intro gx hg w1 hbox hb; have BX := Aside0.mk hbox; have GX := Aside0.mk ((by rw [hg]; exact (below_size (by repeat (first | (with_reducible first | exact HM.out | apply below_alloc | apply pw_below_drewN | apply below_drew1) | exact HM.out)))) : w.heap.size ≤ gx); have n0_ := Aside0.mk (below_step (by repeat (first | (with_reducible first | exact HM.out | apply below_alloc | apply pw_below_drewN | apply below_drew1) | exact HM.out)) hb); clear HM; have HM := n0_; clear n0_ hb hbox hg) | ((with_reducible refine gate_dst (N := 2) rfl ?_); refine box_event ?hg (N := 2) ?hd (cs := #[.int .i64 0, .string (⟨#[]⟩ : ByteArray)]) (t := 28) ?hr ?_; (case hd => rfl); (case hg => rfl); (case hr => first | (go_simp; done) | (go_simp; rfl)); intro gy hg w2 hbox hb; have BY := Aside0.mk hbox; have GY := Aside0.mk ((by rw [hg]; exact (below_size (by repeat (first | (with_reducible first | exact HM.out | apply below_alloc | apply pw_below_drewN | apply below_drew1) | exact HM.out)))) : w.heap.size ≤ gy); have NE := Aside0.mk ((by rw [hg]; exact Nat.ne_of_lt (Array.getElem?_eq_some_iff.mp BX.out).1) : gx ≠ gy); have n1_ := Aside0.mk (blk_below (by (with_reducible repeat (first | refine blk_drewN ?_ _ | refine blk_drew ?_ | refine blk_alloc ?_ _)); exact BX.out) hb); have n0_ := Aside0.mk (below_step (by repeat (first | (with_reducible first | exact HM.out | apply below_alloc | apply pw_below_drewN | apply below_drew1) | exact HM.out)) hb); clear HM BX; have HM := n0_; have BX := n1_; clear n0_ n1_ hb hbox hg; have nx := NE.out; have ny := Ne.symm NE.out; have x0 : w2.cell? ⟨gx, 0, none⟩ = some (.int .i64 0) := (blk_cell BX.out 0).trans rfl; have x1 : w2.cell? ⟨gx, 1, none⟩ = some (.string ⟨#[]⟩) := (blk_cell BX.out 1).trans rfl; have y0 : w2.cell? ⟨gy, 0, none⟩ = some (.int .i64 0) := (blk_cell BY.out 0).trans rfl; have y1 : w2.cell? ⟨gy, 1, none⟩ = some (.string ⟨#[]⟩) := (blk_cell BY.out 1).trans rfl; have fx0 := blk_frozen BX.out 0; have fx1 := blk_frozen BX.out 1; have fy0 := blk_frozen BY.out 0; have fy1 := blk_frozen BY.out 1) | ((with_reducible refine gate_callee (f := 19) rfl ?_); refine goesL_ (some 14) rfl rfl Try.func19 (by kernel_rfl) rfl #[.pointer none, .agg #[.int .i64 1, .string ⟨#[120]⟩], .agg #[.int .i64 1, .int .i64 0, .pointer none, .pointer none]] rfl (by (try simp only [List.map_toArray, List.map_cons, List.map_nil]); first | done | rfl) ?_; have BX1 : Aside0 (((((w2.setCell ⟨gx, 0, none⟩ (.int .i64 1)).setCell ⟨gx, 1, none⟩ (.string ⟨#[120]⟩)).setCell ⟨gy, 0, none⟩ (.int .i64 1)).setCell ⟨gy, 1, none⟩ (.string ⟨#[121]⟩)).heap[gx]? = some (.cells #[.int .i64 1, .string ⟨#[120]⟩] 28 (0, 0))) := ⟨blk_far (blk_far (blk_put (blk_put BX.out 0 _ rfl) 1 _ rfl) NE.out _) NE.out _⟩; have BY1 : Aside0 (((((w2.setCell ⟨gx, 0, none⟩ (.int .i64 1)).setCell ⟨gx, 1, none⟩ (.string ⟨#[120]⟩)).setCell ⟨gy, 0, none⟩ (.int .i64 1)).setCell ⟨gy, 1, none⟩ (.string ⟨#[121]⟩)).heap[gy]? = some (.cells #[.int .i64 1, .string ⟨#[121]⟩] 28 (0, 0))) := ⟨blk_put (blk_put (blk_far (blk_far BY.out (Ne.symm NE.out) _) (Ne.symm NE.out) _) 0 _ rfl) 1 _ rfl⟩; have HM1 : Aside0 (Below w.heap.size w ((((w2.setCell ⟨gx, 0, none⟩ (.int .i64 1)).setCell ⟨gx, 1, none⟩ (.string ⟨#[120]⟩)).setCell ⟨gy, 0, none⟩ (.int .i64 1)).setCell ⟨gy, 1, none⟩ (.string ⟨#[121]⟩))) := ⟨below_set (below_set (below_set (below_set HM.out GX.out) GX.out) GY.out) GY.out⟩; refine (with_ none e1 _).mono ?_; rintro x w3 ⟨g1, rfl, hg, hc, hb⟩; refine ⟨_, rfl, ?_⟩; have A1 : Aside0 (At w3 [(g1, e1)]) := ⟨⟨hc, trivial⟩⟩; have BX3 := Aside0.mk (blk_below BX1.out hb); have BY3 := Aside0.mk (blk_below BY1.out hb); have HM3 := Aside0.mk (below_step HM1.out hb); clear BX BY HM BX1 BY1 HM1 hg hc hb NE GX GY))
  clear nx ny x0 x1 y0 y1 fx0 fx1 fy0 fy1
  refine start_ (n := 8) (S := fun w' => w'.cell? ⟨gx, 0, none⟩ = some (.int .i64 1) ∧ w'.cell? ⟨gx, 1, none⟩ = some (.string ⟨#[120]⟩) ∧ w'.cell? ⟨gy, 0, none⟩ = some (.int .i64 1) ∧ w'.cell? ⟨gy, 1, none⟩ = some (.string ⟨#[121]⟩)) (ds := []) #[false, false, false, false, false, false, false, false] (by kernel_rfl) rfl rfl ⟨(blk_cell BX3.out 0).trans rfl, (blk_cell BX3.out 1).trans rfl, (blk_cell BY3.out 0).trans rfl, (blk_cell BY3.out 1).trans rfl⟩ (fun hHeld => ?_)
  have n_ := Aside0.mk (At.below A1.out (below_drew1 (Below.refl _ _)))
  clear A1
  have A1 := n_
  clear n_
  have n_ := Aside0.mk (blk_drew BX3.out)
  clear BX3
  have BX3 := n_
  clear n_
  have n_ := Aside0.mk (blk_drew BY3.out)
  clear BY3
  have BY3 := n_
  clear n_
  have n_ := Aside0.mk (below_drew1 HM3.out)
  clear HM3
  have HM3 := n_
  clear n_
  generalize w3.drew = w4 at A1 BX3 BY3 HM3 hHeld ⊢
  refine pure_ (i := 0) (N := some 15) (v := ?_) (a' := ?_) #[true, false, false, false, false, false, false, false] rfl rfl (by kernel_rfl) (fun _ _ _ h => h) (Or.inl ⟨by rfl, ?_⟩) ?_ ?_
  rotate_left
  · intro w'
    go_simp
    with_reducible rfl
  rotate_left
  · simp only [Act.put, List.setIfInBounds_toArray, List.set_cons_zero, List.set_cons_succ, i64_w, i32_w]
    rfl
  refine pure_ (i := 2) (N := some 17) (v := ?_) (a' := ?_) #[true, false, true, false, false, false, false, false] rfl rfl (by kernel_rfl) (fun _ _ _ h => h) (Or.inl ⟨by rfl, ?_⟩) ?_ ?_
  rotate_left
  · intro w'
    go_simp
    with_reducible rfl
  rotate_left
  · simp only [Act.put, List.setIfInBounds_toArray, List.set_cons_zero, List.set_cons_succ, i64_w, i32_w]
    rfl
  refine pure_ (i := 5) (N := some 20) (v := ?_) (a' := ?_) #[true, false, true, false, false, true, false, false] rfl rfl (by kernel_rfl) (fun _ _ _ h => h) (Or.inl ⟨by rfl, ?_⟩) ?_ ?_
  rotate_left
  · intro w'
    go_simp
    with_reducible rfl
  rotate_left
  · simp only [Act.put, List.setIfInBounds_toArray, List.set_cons_zero, List.set_cons_succ, i64_w, i32_w]
    rfl
  refine take_ (i := 1) (N := some 16) (v := ?_) (a' := ?_) #[true, true, true, false, false, true, false, false] rfl rfl (by kernel_rfl) (fun _ _ _ h => h) (Or.inl ⟨by rfl, ?_⟩) hHeld ?_ ?_
  rotate_left
  · rintro w' ⟨s0, s1, s2, s3⟩
    go_simp
    with_reducible rfl
  rotate_left
  · simp only [Act.put, List.setIfInBounds_toArray, List.set_cons_zero, List.set_cons_succ, i64_w, i32_w]
    rfl
  refine take_ (i := 4) (N := some 19) (v := ?_) (a' := ?_) #[true, true, true, false, true, true, false, false] rfl rfl (by kernel_rfl) (fun _ _ _ h => h) (Or.inl ⟨by rfl, ?_⟩) hHeld ?_ ?_
  rotate_left
  · rintro w' ⟨s0, s1, s2, s3⟩
    go_simp
    with_reducible rfl
  rotate_left
  · simp only [Act.put, List.setIfInBounds_toArray, List.set_cons_zero, List.set_cons_succ, i64_w, i32_w]
    rfl
  refine one_ (i := 3) (N := some 18) #[true, true, true, true, true, true, false, false] rfl rfl (by kernel_rfl) (by decide) (fun K hK => ?_)
  refine goes_ Try.func19 (by kernel_rfl) rfl #[.pointer (some ⟨g1, 0, none⟩), .agg #[.int .i64 1, .string ⟨#[121]⟩], .agg #[.int .i64 2, .int .i64 0, .pointer none, .pointer none]] (by rfl) rfl rfl (by (try simp only [List.map_toArray, List.map_cons, List.map_nil]); first | done | rfl) ?_
  refine (with_ (some ⟨g1, 0, none⟩) e2 w4).mono ?_
  rintro x w5 ⟨g2, rfl, hg, hc, hb⟩
  refine ⟨_, rfl, ?_⟩
  have N12 : g1 ≠ g2 := Nat.ne_of_lt (Nat.lt_of_lt_of_le (Array.getElem?_eq_some_iff.mp A1.out.1).1 hg)
  have A2 : Aside0 (At w5 [(g2, e2), (g1, e1)]) := ⟨⟨hc, At.below A1.out hb⟩⟩
  have BX5 := Aside0.mk (blk_below BX3.out hb)
  have BY5 := Aside0.mk (blk_below BY3.out hb)
  have HM5 := Aside0.mk (below_step HM3.out hb)
  clear A1 BX3 BY3 HM3 hg hc hb
  refine hK.out _ _ ⟨(blk_cell BX5.out 0).trans rfl, (blk_cell BX5.out 1).trans rfl, (blk_cell BY5.out 0).trans rfl, (blk_cell BY5.out 1).trans rfl⟩ (fun hHeld => ?_)
  clear hK K
  refine norm_ (a' := ?_) ?_ ?_
  rotate_left
  · show Act.put _ (some 18) _ = _
    simp only [Act.put, List.setIfInBounds_toArray, List.set_cons_zero, List.set_cons_succ, i64_w, i32_w]
    rfl
  refine one_ (i := 6) (N := some 21) #[true, true, true, true, true, true, true, false] rfl rfl (by kernel_rfl) (by decide) (fun K hK => ?_)
  refine goes_ Try.func19 (by kernel_rfl) rfl #[.pointer (some ⟨g2, 0, none⟩), .agg #[.int .i64 1, .string ⟨#[120]⟩], .agg #[.int .i64 3, .int .i64 0, .pointer none, .pointer none]] (by rfl) rfl rfl (by (try simp only [List.map_toArray, List.map_cons, List.map_nil]); first | done | rfl) ?_
  refine (with_ (some ⟨g2, 0, none⟩) e3 w5).mono ?_
  rintro x w6 ⟨g3, rfl, hg, hc, hb⟩
  refine ⟨_, rfl, ?_⟩
  have N13 : g1 ≠ g3 := Nat.ne_of_lt (Nat.lt_of_lt_of_le (Array.getElem?_eq_some_iff.mp A2.out.2.1).1 hg)
  have A3 : Aside0 (At w6 [(g3, e3), (g2, e2), (g1, e1)]) := ⟨⟨hc, At.below A2.out hb⟩⟩
  have BX6 := Aside0.mk (blk_below BX5.out hb)
  have BY6 := Aside0.mk (blk_below BY5.out hb)
  have HM6 := Aside0.mk (below_step HM5.out hb)
  have N12' := Aside0.mk N12
  have N13' := Aside0.mk N13
  clear A2 BX5 BY5 HM5 hg hc hb N12 N13
  refine hK.out _ _ ⟨(blk_cell BX6.out 0).trans rfl, (blk_cell BX6.out 1).trans rfl, (blk_cell BY6.out 0).trans rfl, (blk_cell BY6.out 1).trans rfl⟩ (fun hHeld => ?_)
  clear hK K
  refine norm_ (a' := ?_) ?_ ?_
  rotate_left
  · show Act.put _ (some 21) _ = _
    simp only [Act.put, List.setIfInBounds_toArray, List.set_cons_zero, List.set_cons_succ, i64_w, i32_w]
    rfl
  refine pure_ (i := 7) (N := some 5) (v := ?_) (a' := ?_) #[true, true, true, true, true, true, true, true] rfl rfl (by kernel_rfl) (fun _ _ _ h => h) (Or.inl ⟨by rfl, ?_⟩) ?_ ?_
  rotate_left
  · intro w'
    go_simp
    with_reducible rfl
  rotate_left
  · simp only [Act.put, List.setIfInBounds_toArray, List.set_cons_zero, List.set_cons_succ, i64_w, i32_w]
    rfl
  refine done_ (by kernel_rfl) ?_
  clear hHeld
  have WF : Aside0 (∀ x ∈ ([(g3, e3), (g2, e2), (g1, e1)] : Ch), wfK x.2.k) := ⟨fun x hx => by
    simp only [List.mem_cons, List.not_mem_nil, or_false] at hx
    rcases hx with rfl | rfl | rfl
    · exact wf1
    · exact wf2
    · exact wf1⟩
  go_wp2_with (first | ((with_reducible refine gate_callee (f := 14) rfl ?_); refine goesL_ (some 23) rfl rfl Try.func14 (by kernel_rfl) rfl #[.pointer (some ⟨g3, 0, none⟩)] rfl (by (try simp only [List.map_toArray, List.map_cons, List.map_nil]); first | done | rfl) ?_; refine (keys_ [(g3, e3), (g2, e2), (g1, e1)] _ A3.out WF.out (by simp)).mono ?_; rintro e w7 ⟨vk, rfl, hr, hb⟩; refine ⟨_, rfl, ?_⟩; rw [ex_vis] at hr; have hr2 : Kd.R k28 28 w7 w6.heap.size (fun _ => True) vk [e2.k, e3.k] := hr; have HK := Aside0.mk (Kd.R_lower hr2 HM6.out.size); obtain ⟨gk, ck, ek, _, _, _⟩ := Kd.R_form hr2 (by simp); subst ek; have n1_ := Aside0.mk (At.below A3.out hb); have n2_ := Aside0.mk (blk_below BX6.out hb); have n3_ := Aside0.mk (blk_below BY6.out hb); have n4_ := Aside0.mk (below_step HM6.out hb); clear A3 BX6 BY6 HM6; have A3 := n1_; have BX6 := n2_; have BY6 := n3_; have HM6 := n4_; clear n1_ n2_ n3_ n4_; clear hr hr2 hb; have x0 : w7.cell? ⟨gx, 0, none⟩ = some (.int .i64 1) := (blk_cell BX6.out 0).trans rfl; have x1 : w7.cell? ⟨gx, 1, none⟩ = some (.string ⟨#[120]⟩) := (blk_cell BX6.out 1).trans rfl) | ((with_reducible refine gate_callee (f := 15) rfl ?_); refine goesL_ (some 27) rfl rfl Try.func15 (by kernel_rfl) rfl #[.pointer (some ⟨g3, 0, none⟩), .agg #[.int .i64 1, .string ⟨#[120]⟩]] rfl (by (try simp only [List.map_toArray, List.map_cons, List.map_nil]); first | done | rfl) ?_; refine (find_ [(g3, e3), (g2, e2), (g1, e1)] ⟨1, ⟨#[120]⟩⟩ w7 A3.out).mono ?_; rintro x w8 ⟨hx, hb⟩; rw [ex_find] at hx; replace hx : x = .returned (.tuple #[.agg #[.int .i64 3, .int .i64 0, .pointer none, .pointer none], .bool true]) := hx; subst hx; refine ⟨_, rfl, ?_⟩; have n0_ := Aside0.mk (Kd.R_below HK.out hb); clear HK; have HK := n0_; clear n0_; have n1_ := Aside0.mk (At.below A3.out hb); have n2_ := Aside0.mk (blk_below BX6.out hb); have n3_ := Aside0.mk (blk_below BY6.out hb); have n4_ := Aside0.mk (below_step HM6.out hb); clear A3 BX6 BY6 HM6; have A3 := n1_; have BX6 := n2_; have BY6 := n3_; have HM6 := n4_; clear n1_ n2_ n3_ n4_; clear hb) | ((with_reducible refine gate_dst (N := 7) rfl ?_); refine box_event ?hg (N := 7) ?hd (cs := #[.int .i64 0, .int .i64 0, .pointer none, .pointer none]) (t := 41) ?hr ?_; (case hd => rfl); (case hg => rfl); (case hr => first | (go_simp; done) | (go_simp; rfl)); intro gi hg w9 hbox hb; have BI := Aside0.mk hbox; have GI := Aside0.mk ((by rw [hg]; exact HM6.out.size) : w.heap.size ≤ gi); have n0_ := Aside0.mk (Kd.R_below HK.out hb); clear HK; have HK := n0_; clear n0_; have n1_ := Aside0.mk (At.below A3.out hb); have n2_ := Aside0.mk (blk_below BX6.out hb); have n3_ := Aside0.mk (blk_below BY6.out hb); have n4_ := Aside0.mk (below_step HM6.out hb); clear A3 BX6 BY6 HM6; have A3 := n1_; have BX6 := n2_; have BY6 := n3_; have HM6 := n4_; clear n1_ n2_ n3_ n4_; clear hb hbox hg; have i0 : w9.cell? ⟨gi, 0, none⟩ = some (.int .i64 0) := (blk_cell BI.out 0).trans rfl; have i1 : w9.cell? ⟨gi, 1, none⟩ = some (.int .i64 0) := (blk_cell BI.out 1).trans rfl; have i2 : w9.cell? ⟨gi, 2, none⟩ = some (.pointer none) := (blk_cell BI.out 2).trans rfl; have i3 : w9.cell? ⟨gi, 3, none⟩ = some (.pointer none) := (blk_cell BI.out 3).trans rfl; have fi0 := blk_frozen BI.out 0; have fi1 := blk_frozen BI.out 1; have fi2 := blk_frozen BI.out 2; have fi3 := blk_frozen BI.out 3))
  have A4 : Aside0 (At ((((w9.setCell ⟨gi, 0, none⟩ (.int .i64 3)).setCell ⟨gi, 1, none⟩ (.int .i64 0)).setCell ⟨gi, 2, none⟩ (.pointer none)).setCell ⟨gi, 3, none⟩ (.pointer none)) [(g3, e3), (g2, e2), (g1, e1)]) := ⟨(((A3.out.far BI.out (by decide) 0 _).far (blk_put BI.out 0 _ rfl) (by decide) 1 _).far (blk_put (blk_put BI.out 0 _ rfl) 1 _ rfl) (by decide) 2 _).far (blk_put (blk_put (blk_put BI.out 0 _ rfl) 1 _ rfl) 2 _ rfl) (by decide) 3 _⟩
  have nxi : gx ≠ gi := blk_ne BX6.out BI.out (by decide)
  have nyi : gy ≠ gi := blk_ne BY6.out BI.out (by decide)
  have BX7 : Aside0 (((((w9.setCell ⟨gi, 0, none⟩ (.int .i64 3)).setCell ⟨gi, 1, none⟩ (.int .i64 0)).setCell ⟨gi, 2, none⟩ (.pointer none)).setCell ⟨gi, 3, none⟩ (.pointer none)).heap[gx]? = some (.cells #[.int .i64 1, .string ⟨#[120]⟩] 28 (0, 0))) := ⟨blk_far (blk_far (blk_far (blk_far BX6.out nxi _) nxi _) nxi _) nxi _⟩
  have BY7 : Aside0 (((((w9.setCell ⟨gi, 0, none⟩ (.int .i64 3)).setCell ⟨gi, 1, none⟩ (.int .i64 0)).setCell ⟨gi, 2, none⟩ (.pointer none)).setCell ⟨gi, 3, none⟩ (.pointer none)).heap[gy]? = some (.cells #[.int .i64 1, .string ⟨#[121]⟩] 28 (0, 0))) := ⟨blk_far (blk_far (blk_far (blk_far BY6.out nyi _) nyi _) nyi _) nyi _⟩
  have BI7 : Aside0 (((((w9.setCell ⟨gi, 0, none⟩ (.int .i64 3)).setCell ⟨gi, 1, none⟩ (.int .i64 0)).setCell ⟨gi, 2, none⟩ (.pointer none)).setCell ⟨gi, 3, none⟩ (.pointer none)).heap[gi]? = some (.cells #[.int .i64 3, .int .i64 0, .pointer none, .pointer none] 41 (0, 0))) := ⟨blk_put (blk_put (blk_put (blk_put BI.out 0 _ rfl) 1 _ rfl) 2 _ rfl) 3 _ rfl⟩
  have HK7 : Aside0 (Kd.R k28 28 ((((w9.setCell ⟨gi, 0, none⟩ (.int .i64 3)).setCell ⟨gi, 1, none⟩ (.int .i64 0)).setCell ⟨gi, 2, none⟩ (.pointer none)).setCell ⟨gi, 3, none⟩ (.pointer none)) w.heap.size (fun _ => True) (.slice (some ⟨gk, 0, none⟩) 2 ck) [e2.k, e3.k]) := ⟨Kd.R_set (Kd.R_set (Kd.R_set (Kd.R_set HK.out BI.out (by decide) 0 _) (blk_put BI.out 0 _ rfl) (by decide) 1 _) (blk_put (blk_put BI.out 0 _ rfl) 1 _ rfl) (by decide) 2 _) (blk_put (blk_put (blk_put BI.out 0 _ rfl) 1 _ rfl) 2 _ rfl) (by decide) 3 _⟩
  have HM7 : Aside0 (Below w.heap.size w ((((w9.setCell ⟨gi, 0, none⟩ (.int .i64 3)).setCell ⟨gi, 1, none⟩ (.int .i64 0)).setCell ⟨gi, 2, none⟩ (.pointer none)).setCell ⟨gi, 3, none⟩ (.pointer none))) := ⟨below_set (below_set (below_set (below_set HM6.out GI.out) GI.out) GI.out) GI.out⟩
  clear A3 BX6 BY6 BI HK HM6 nxi nyi i0 i1 i2 i3 fi0 fi1 fi2 fi3 GI
  generalize ((((w9.setCell ⟨gi, 0, none⟩ (.int .i64 3)).setCell ⟨gi, 1, none⟩ (.int .i64 0)).setCell ⟨gi, 2, none⟩ (.pointer none)).setCell ⟨gi, 3, none⟩ (.pointer none)) = w10 at A4 BX7 BY7 BI7 HK7 HM7 ⊢
  have HKC : Aside0 (w10.cell? ⟨gk, 0, none⟩ = some (.int .i64 1) ∧ w10.cell? ⟨gk, 1, none⟩ = some (.string ⟨#[121]⟩) ∧ w10.cell? ⟨gk, 2, none⟩ = some (.int .i64 1) ∧ w10.cell? ⟨gk, 3, none⟩ = some (.string ⟨#[120]⟩)) := ⟨by
    obtain ⟨c0, _, hM0, hc0, _⟩ := Kd.R_elem HK7.out z28 (0 : Int) (by decide) (by decide)
    obtain ⟨c1, _, hM1, hc1, _⟩ := Kd.R_elem HK7.out z28 (1 : Int) (by decide) (by decide)
    obtain rfl := k28_openM hM0
    obtain rfl := k28_openM hM1
    exact ⟨hc0 0 _ rfl, hc0 1 _ rfl, hc1 0 _ rfl, hc1 1 _ rfl⟩⟩
  clear HK7
  refine start_ (n := 40) (S := fun w' => w'.cell? ⟨gk, 0, none⟩ = some (.int .i64 1) ∧ w'.cell? ⟨gk, 1, none⟩ = some (.string ⟨#[121]⟩) ∧ w'.cell? ⟨gk, 2, none⟩ = some (.int .i64 1) ∧ w'.cell? ⟨gk, 3, none⟩ = some (.string ⟨#[120]⟩) ∧ w'.cell? ⟨gx, 0, none⟩ = some (.int .i64 1) ∧ w'.cell? ⟨gx, 1, none⟩ = some (.string ⟨#[120]⟩) ∧ w'.cell? ⟨gy, 0, none⟩ = some (.int .i64 1) ∧ w'.cell? ⟨gy, 1, none⟩ = some (.string ⟨#[121]⟩) ∧ w'.cell? ⟨gi, 0, none⟩ = some (.int .i64 3)) (ds := []) #[false, false, false, false, false, false, false, false, false, false, false, false, false, false, false, false, false, false, false, false, false, false, false, false, false, false, false, false, false, false, false, false, false, false, false, false, false, false, false, false] (by kernel_rfl) rfl rfl ⟨HKC.out.1, HKC.out.2.1, HKC.out.2.2.1, HKC.out.2.2.2, (blk_cell BX7.out 0).trans rfl, (blk_cell BX7.out 1).trans rfl, (blk_cell BY7.out 0).trans rfl, (blk_cell BY7.out 1).trans rfl, (blk_cell BI7.out 0).trans rfl⟩ (fun hHeld => ?_)
  have n_ := Aside0.mk (At.below A4.out (below_drew1 (Below.refl _ _)))
  clear A4
  have A4 := n_
  clear n_
  have n_ := Aside0.mk (below_drew1 HM7.out)
  clear HM7
  have HM7 := n_
  clear n_
  clear HKC BX7 BY7 BI7
  generalize w10.drew = w11 at A4 HM7 hHeld ⊢
  refine pure_ (i := 0) (N := some 30) (v := ?_) (a' := ?_) #[true, false, false, false, false, false, false, false, false, false, false, false, false, false, false, false, false, false, false, false, false, false, false, false, false, false, false, false, false, false, false, false, false, false, false, false, false, false, false, false] rfl rfl (by kernel_rfl) (fun _ _ _ h => h) (Or.inl ⟨by rfl, ?_⟩) ?_ ?_
  rotate_left
  · intro w'
    go_simp
    with_reducible rfl
  rotate_left
  · simp only [Act.put, List.setIfInBounds_toArray, List.set_cons_zero, List.set_cons_succ, i64_w, i32_w]
    rfl
  refine pure_ (i := 1) (N := some 31) (v := ?_) (a' := ?_) #[true, true, false, false, false, false, false, false, false, false, false, false, false, false, false, false, false, false, false, false, false, false, false, false, false, false, false, false, false, false, false, false, false, false, false, false, false, false, false, false] rfl rfl (by kernel_rfl) (fun _ _ _ h => h) (Or.inl ⟨by rfl, ?_⟩) ?_ ?_
  rotate_left
  · intro w'
    go_simp
    with_reducible rfl
  rotate_left
  · simp only [Act.put, List.setIfInBounds_toArray, List.set_cons_zero, List.set_cons_succ, i64_w, i32_w]
    rfl
  refine pure_ (i := 2) (N := some 32) (v := ?_) (a' := ?_) #[true, true, true, false, false, false, false, false, false, false, false, false, false, false, false, false, false, false, false, false, false, false, false, false, false, false, false, false, false, false, false, false, false, false, false, false, false, false, false, false] rfl rfl (by kernel_rfl) (fun _ _ _ h => h) (Or.inl ⟨by rfl, ?_⟩) ?_ ?_
  rotate_left
  · intro w'
    go_simp
    with_reducible rfl
  rotate_left
  · simp only [Act.put, List.setIfInBounds_toArray, List.set_cons_zero, List.set_cons_succ, i64_w, i32_w]
    rfl
  refine pure_ (i := 3) (N := some 33) (v := ?_) (a' := ?_) #[true, true, true, true, false, false, false, false, false, false, false, false, false, false, false, false, false, false, false, false, false, false, false, false, false, false, false, false, false, false, false, false, false, false, false, false, false, false, false, false] rfl rfl (by kernel_rfl) (fun _ _ _ h => h) (Or.inl ⟨by rfl, ?_⟩) ?_ ?_
  rotate_left
  · intro w'
    go_simp
    with_reducible rfl
  rotate_left
  · simp only [Act.put, List.setIfInBounds_toArray, List.set_cons_zero, List.set_cons_succ, i64_w, i32_w]
    rfl
  refine pure_ (i := 4) (N := some 34) (v := ?_) (a' := ?_) #[true, true, true, true, true, false, false, false, false, false, false, false, false, false, false, false, false, false, false, false, false, false, false, false, false, false, false, false, false, false, false, false, false, false, false, false, false, false, false, false] rfl rfl (by kernel_rfl) (fun _ _ _ h => h) (Or.inl ⟨by rfl, ?_⟩) ?_ ?_
  rotate_left
  · intro w'
    go_simp
    with_reducible rfl
  rotate_left
  · simp only [Act.put, List.setIfInBounds_toArray, List.set_cons_zero, List.set_cons_succ, i64_w, i32_w]
    rfl
  refine pure_ (i := 5) (N := some 35) (v := ?_) (a' := ?_) #[true, true, true, true, true, true, false, false, false, false, false, false, false, false, false, false, false, false, false, false, false, false, false, false, false, false, false, false, false, false, false, false, false, false, false, false, false, false, false, false] rfl rfl (by kernel_rfl) (fun _ _ _ h => h) (Or.inl ⟨by rfl, ?_⟩) ?_ ?_
  rotate_left
  · intro w'
    go_simp
    with_reducible rfl
  rotate_left
  · simp only [Act.put, List.setIfInBounds_toArray, List.set_cons_zero, List.set_cons_succ, i64_w, i32_w]
    rfl
  refine take_ (i := 6) (N := some 36) (v := ?_) (a' := ?_) #[true, true, true, true, true, true, true, false, false, false, false, false, false, false, false, false, false, false, false, false, false, false, false, false, false, false, false, false, false, false, false, false, false, false, false, false, false, false, false, false] rfl rfl (by kernel_rfl) (fun _ _ _ h => h) (Or.inl ⟨by rfl, ?_⟩) hHeld ?_ ?_
  rotate_left
  · rintro w' ⟨s0, s1, s2, s3, s4, s5, s6, s7, s8⟩
    go_simp
    with_reducible rfl
  rotate_left
  · simp only [Act.put, List.setIfInBounds_toArray, List.set_cons_zero, List.set_cons_succ, i64_w, i32_w]
    rfl
  refine take_ (i := 7) (N := some 37) (v := ?_) (a' := ?_) #[true, true, true, true, true, true, true, true, false, false, false, false, false, false, false, false, false, false, false, false, false, false, false, false, false, false, false, false, false, false, false, false, false, false, false, false, false, false, false, false] rfl rfl (by kernel_rfl) (fun _ _ _ h => h) (Or.inl ⟨by rfl, ?_⟩) hHeld ?_ ?_
  rotate_left
  · rintro w' ⟨s0, s1, s2, s3, s4, s5, s6, s7, s8⟩
    go_simp
    with_reducible rfl
  rotate_left
  · simp only [Act.put, List.setIfInBounds_toArray, List.set_cons_zero, List.set_cons_succ, i64_w, i32_w]
    rfl
  refine pure_ (i := 8) (N := some 38) (v := ?_) (a' := ?_) #[true, true, true, true, true, true, true, true, true, false, false, false, false, false, false, false, false, false, false, false, false, false, false, false, false, false, false, false, false, false, false, false, false, false, false, false, false, false, false, false] rfl rfl (by kernel_rfl) (fun _ _ _ h => h) (Or.inl ⟨by rfl, ?_⟩) ?_ ?_
  rotate_left
  · intro w'
    go_simp
    with_reducible rfl
  rotate_left
  · simp only [Act.put, List.setIfInBounds_toArray, List.set_cons_zero, List.set_cons_succ, i64_w, i32_w]
    rfl
  refine pure_ (i := 9) (N := some 39) (v := ?_) (a' := ?_) #[true, true, true, true, true, true, true, true, true, true, false, false, false, false, false, false, false, false, false, false, false, false, false, false, false, false, false, false, false, false, false, false, false, false, false, false, false, false, false, false] rfl rfl (by kernel_rfl) (fun _ _ _ h => h) (Or.inl ⟨by rfl, ?_⟩) ?_ ?_
  rotate_left
  · intro w'
    go_simp
    with_reducible rfl
  rotate_left
  · simp only [Act.put, List.setIfInBounds_toArray, List.set_cons_zero, List.set_cons_succ, i64_w, i32_w]
    rfl
  refine pure_ (i := 10) (N := some 40) (v := ?_) (a' := ?_) #[true, true, true, true, true, true, true, true, true, true, true, false, false, false, false, false, false, false, false, false, false, false, false, false, false, false, false, false, false, false, false, false, false, false, false, false, false, false, false, false] rfl rfl (by kernel_rfl) (fun _ _ _ h => h) (Or.inl ⟨by rfl, ?_⟩) ?_ ?_
  rotate_left
  · intro w'
    go_simp
    with_reducible rfl
  rotate_left
  · simp only [Act.put, List.setIfInBounds_toArray, List.set_cons_zero, List.set_cons_succ, i64_w, i32_w]
    rfl
  refine pure_ (i := 11) (N := some 41) (v := ?_) (a' := ?_) #[true, true, true, true, true, true, true, true, true, true, true, true, false, false, false, false, false, false, false, false, false, false, false, false, false, false, false, false, false, false, false, false, false, false, false, false, false, false, false, false] rfl rfl (by kernel_rfl) (fun _ _ _ h => h) (Or.inl ⟨by rfl, ?_⟩) ?_ ?_
  rotate_left
  · intro w'
    go_simp
    with_reducible rfl
  rotate_left
  · simp only [Act.put, List.setIfInBounds_toArray, List.set_cons_zero, List.set_cons_succ, i64_w, i32_w]
    rfl
  refine pure_ (i := 12) (N := some 42) (v := ?_) (a' := ?_) #[true, true, true, true, true, true, true, true, true, true, true, true, true, false, false, false, false, false, false, false, false, false, false, false, false, false, false, false, false, false, false, false, false, false, false, false, false, false, false, false] rfl rfl (by kernel_rfl) (fun _ _ _ h => h) (Or.inl ⟨by rfl, ?_⟩) ?_ ?_
  rotate_left
  · intro w'
    go_simp
    with_reducible rfl
  rotate_left
  · simp only [Act.put, List.setIfInBounds_toArray, List.set_cons_zero, List.set_cons_succ, i64_w, i32_w]
    rfl
  refine take_ (i := 13) (N := some 43) (v := ?_) (a' := ?_) #[true, true, true, true, true, true, true, true, true, true, true, true, true, true, false, false, false, false, false, false, false, false, false, false, false, false, false, false, false, false, false, false, false, false, false, false, false, false, false, false] rfl rfl (by kernel_rfl) (fun _ _ _ h => h) (Or.inl ⟨by rfl, ?_⟩) hHeld ?_ ?_
  rotate_left
  · rintro w' ⟨s0, s1, s2, s3, s4, s5, s6, s7, s8⟩
    go_simp
    with_reducible rfl
  rotate_left
  · simp only [Act.put, List.setIfInBounds_toArray, List.set_cons_zero, List.set_cons_succ, i64_w, i32_w]
    rfl
  refine take_ (i := 14) (N := some 44) (v := ?_) (a' := ?_) #[true, true, true, true, true, true, true, true, true, true, true, true, true, true, true, false, false, false, false, false, false, false, false, false, false, false, false, false, false, false, false, false, false, false, false, false, false, false, false, false] rfl rfl (by kernel_rfl) (fun _ _ _ h => h) (Or.inl ⟨by rfl, ?_⟩) hHeld ?_ ?_
  rotate_left
  · rintro w' ⟨s0, s1, s2, s3, s4, s5, s6, s7, s8⟩
    go_simp
    with_reducible rfl
  rotate_left
  · simp only [Act.put, List.setIfInBounds_toArray, List.set_cons_zero, List.set_cons_succ, i64_w, i32_w]
    rfl
  refine pure_ (i := 15) (N := some 45) (v := ?_) (a' := ?_) #[true, true, true, true, true, true, true, true, true, true, true, true, true, true, true, true, false, false, false, false, false, false, false, false, false, false, false, false, false, false, false, false, false, false, false, false, false, false, false, false] rfl rfl (by kernel_rfl) (fun _ _ _ h => h) (Or.inl ⟨by rfl, ?_⟩) ?_ ?_
  rotate_left
  · intro w'
    go_simp
    with_reducible rfl
  rotate_left
  · simp only [Act.put, List.setIfInBounds_toArray, List.set_cons_zero, List.set_cons_succ, i64_w, i32_w]
    rfl
  refine pure_ (i := 16) (N := some 46) (v := ?_) (a' := ?_) #[true, true, true, true, true, true, true, true, true, true, true, true, true, true, true, true, true, false, false, false, false, false, false, false, false, false, false, false, false, false, false, false, false, false, false, false, false, false, false, false] rfl rfl (by kernel_rfl) (fun _ _ _ h => h) (Or.inl ⟨by rfl, ?_⟩) ?_ ?_
  rotate_left
  · intro w'
    go_simp
    with_reducible rfl
  rotate_left
  · simp only [Act.put, List.setIfInBounds_toArray, List.set_cons_zero, List.set_cons_succ, i64_w, i32_w]
    rfl
  refine pure_ (i := 17) (N := some 47) (v := ?_) (a' := ?_) #[true, true, true, true, true, true, true, true, true, true, true, true, true, true, true, true, true, true, false, false, false, false, false, false, false, false, false, false, false, false, false, false, false, false, false, false, false, false, false, false] rfl rfl (by kernel_rfl) (fun _ _ _ h => h) (Or.inl ⟨by rfl, ?_⟩) ?_ ?_
  rotate_left
  · intro w'
    go_simp
    with_reducible rfl
  rotate_left
  · simp only [Act.put, List.setIfInBounds_toArray, List.set_cons_zero, List.set_cons_succ, i64_w, i32_w]
    rfl
  refine pure_ (i := 18) (N := some 48) (v := ?_) (a' := ?_) #[true, true, true, true, true, true, true, true, true, true, true, true, true, true, true, true, true, true, true, false, false, false, false, false, false, false, false, false, false, false, false, false, false, false, false, false, false, false, false, false] rfl rfl (by kernel_rfl) (fun _ _ _ h => h) (Or.inl ⟨by rfl, ?_⟩) ?_ ?_
  rotate_left
  · intro w'
    go_simp
    with_reducible rfl
  rotate_left
  · simp only [Act.put, List.setIfInBounds_toArray, List.set_cons_zero, List.set_cons_succ, i64_w, i32_w]
    rfl
  refine pure_ (i := 19) (N := some 49) (v := ?_) (a' := ?_) #[true, true, true, true, true, true, true, true, true, true, true, true, true, true, true, true, true, true, true, true, false, false, false, false, false, false, false, false, false, false, false, false, false, false, false, false, false, false, false, false] rfl rfl (by kernel_rfl) (fun _ _ _ h => h) (Or.inl ⟨by rfl, ?_⟩) ?_ ?_
  rotate_left
  · intro w'
    go_simp
    with_reducible rfl
  rotate_left
  · simp only [Act.put, List.setIfInBounds_toArray, List.set_cons_zero, List.set_cons_succ, i64_w, i32_w]
    rfl
  refine pure_ (i := 20) (N := some 50) (v := ?_) (a' := ?_) #[true, true, true, true, true, true, true, true, true, true, true, true, true, true, true, true, true, true, true, true, true, false, false, false, false, false, false, false, false, false, false, false, false, false, false, false, false, false, false, false] rfl rfl (by kernel_rfl) (fun _ _ _ h => h) (Or.inl ⟨by rfl, ?_⟩) ?_ ?_
  rotate_left
  · intro w'
    go_simp
    with_reducible rfl
  rotate_left
  · simp only [Act.put, List.setIfInBounds_toArray, List.set_cons_zero, List.set_cons_succ, i64_w, i32_w]
    rfl
  refine pure_ (i := 21) (N := some 51) (v := ?_) (a' := ?_) #[true, true, true, true, true, true, true, true, true, true, true, true, true, true, true, true, true, true, true, true, true, true, false, false, false, false, false, false, false, false, false, false, false, false, false, false, false, false, false, false] rfl rfl (by kernel_rfl) (fun _ _ _ h => h) (Or.inl ⟨by rfl, ?_⟩) ?_ ?_
  rotate_left
  · intro w'
    go_simp
    with_reducible rfl
  rotate_left
  · simp only [Act.put, List.setIfInBounds_toArray, List.set_cons_zero, List.set_cons_succ, i64_w, i32_w]
    rfl
  refine take_ (i := 22) (N := some 52) (v := ?_) (a' := ?_) #[true, true, true, true, true, true, true, true, true, true, true, true, true, true, true, true, true, true, true, true, true, true, true, false, false, false, false, false, false, false, false, false, false, false, false, false, false, false, false, false] rfl rfl (by kernel_rfl) (fun _ _ _ h => h) (Or.inl ⟨by rfl, ?_⟩) hHeld ?_ ?_
  rotate_left
  · rintro w' ⟨s0, s1, s2, s3, s4, s5, s6, s7, s8⟩
    go_simp
    with_reducible rfl
  rotate_left
  · simp only [Act.put, List.setIfInBounds_toArray, List.set_cons_zero, List.set_cons_succ, i64_w, i32_w]
    rfl
  refine pure_ (i := 23) (N := some 53) (v := ?_) (a' := ?_) #[true, true, true, true, true, true, true, true, true, true, true, true, true, true, true, true, true, true, true, true, true, true, true, true, false, false, false, false, false, false, false, false, false, false, false, false, false, false, false, false] rfl rfl (by kernel_rfl) (fun _ _ _ h => h) (Or.inl ⟨by rfl, ?_⟩) ?_ ?_
  rotate_left
  · intro w'
    go_simp
    with_reducible rfl
  rotate_left
  · simp only [Act.put, List.setIfInBounds_toArray, List.set_cons_zero, List.set_cons_succ, i64_w, i32_w]
    rfl
  refine pure_ (i := 24) (N := some 54) (v := ?_) (a' := ?_) #[true, true, true, true, true, true, true, true, true, true, true, true, true, true, true, true, true, true, true, true, true, true, true, true, true, false, false, false, false, false, false, false, false, false, false, false, false, false, false, false] rfl rfl (by kernel_rfl) (fun _ _ _ h => h) (Or.inl ⟨by rfl, ?_⟩) ?_ ?_
  rotate_left
  · intro w'
    go_simp
    with_reducible rfl
  rotate_left
  · simp only [Act.put, List.setIfInBounds_toArray, List.set_cons_zero, List.set_cons_succ, i64_w, i32_w]
    rfl
  refine pure_ (i := 25) (N := some 55) (v := ?_) (a' := ?_) #[true, true, true, true, true, true, true, true, true, true, true, true, true, true, true, true, true, true, true, true, true, true, true, true, true, true, false, false, false, false, false, false, false, false, false, false, false, false, false, false] rfl rfl (by kernel_rfl) (fun _ _ _ h => h) (Or.inl ⟨by rfl, ?_⟩) ?_ ?_
  rotate_left
  · intro w'
    go_simp
    with_reducible rfl
  rotate_left
  · simp only [Act.put, List.setIfInBounds_toArray, List.set_cons_zero, List.set_cons_succ, i64_w, i32_w]
    rfl
  refine pure_ (i := 26) (N := some 56) (v := ?_) (a' := ?_) #[true, true, true, true, true, true, true, true, true, true, true, true, true, true, true, true, true, true, true, true, true, true, true, true, true, true, true, false, false, false, false, false, false, false, false, false, false, false, false, false] rfl rfl (by kernel_rfl) (fun _ _ _ h => h) (Or.inl ⟨by rfl, ?_⟩) ?_ ?_
  rotate_left
  · intro w'
    go_simp
    with_reducible rfl
  rotate_left
  · simp only [Act.put, List.setIfInBounds_toArray, List.set_cons_zero, List.set_cons_succ, i64_w, i32_w]
    rfl
  refine pure_ (i := 27) (N := some 57) (v := ?_) (a' := ?_) #[true, true, true, true, true, true, true, true, true, true, true, true, true, true, true, true, true, true, true, true, true, true, true, true, true, true, true, true, false, false, false, false, false, false, false, false, false, false, false, false] rfl rfl (by kernel_rfl) (fun _ _ _ h => h) (Or.inl ⟨by rfl, ?_⟩) ?_ ?_
  rotate_left
  · intro w'
    go_simp
    with_reducible rfl
  rotate_left
  · simp only [Act.put, List.setIfInBounds_toArray, List.set_cons_zero, List.set_cons_succ, i64_w, i32_w]
    rfl
  refine one_ (i := 28) (N := some 58) #[true, true, true, true, true, true, true, true, true, true, true, true, true, true, true, true, true, true, true, true, true, true, true, true, true, true, true, true, true, false, false, false, false, false, false, false, false, false, false, false] rfl rfl (by kernel_rfl) (by decide) (fun K hK => ?_)
  refine goes_ Try.func18 (by kernel_rfl) rfl #[.pointer (some ⟨g3, 0, none⟩), .pointer (some ⟨g1, 0, none⟩)] (by rfl) rfl rfl (by (try simp only [List.map_toArray, List.map_cons, List.map_nil]); first | done | rfl) ?_
  refine (since_ [(g3, e3), (g2, e2), (g1, e1)] (some ⟨g1, 0, none⟩) w11 A4.out (by simp) (fun a h => by cases h; exact ⟨_, _, A4.out.2.2.1⟩)).mono ?_
  rintro x w12 ⟨l2, rfl, hA2, hm2, hb⟩
  rw [show upto (some ⟨g1, 0, none⟩) [(g3, e3), (g2, e2), (g1, e1)] = [(g3, e3), (g2, e2)] by rw [upto, if_neg (by intro h; injection h with h; injection h with h; exact N13'.out h.symm), upto, if_neg (by intro h; injection h with h; injection h with h; exact N12'.out h.symm), upto, if_pos rfl]] at hm2
  obtain ⟨a2, b2, rfl⟩ : ∃ a2 b2, l2 = [(a2, e3), (b2, e2)] := by
    rcases l2 with _ | ⟨⟨a2, u2⟩, _ | ⟨⟨b2, v2⟩, _ | ⟨c2, r2⟩⟩⟩ <;> simp at hm2
    obtain ⟨rfl, rfl⟩ := hm2
    exact ⟨a2, b2, rfl⟩
  refine ⟨_, rfl, ?_⟩
  have A12 := Aside0.mk hA2
  have HM12 := Aside0.mk (below_step HM7.out hb)
  clear A4 HM7 hA2 hm2
  refine hK.out _ _ (held9 hHeld hb) (fun hHeld => ?_)
  clear hK K hb
  refine norm_ (a' := ?_) ?_ ?_
  rotate_left
  · show Act.put _ (some 58) _ = _
    simp only [Act.put, List.setIfInBounds_toArray, List.set_cons_zero, List.set_cons_succ, i64_w, i32_w]
    rfl
  refine one_ (i := 29) (N := some 59) #[true, true, true, true, true, true, true, true, true, true, true, true, true, true, true, true, true, true, true, true, true, true, true, true, true, true, true, true, true, true, false, false, false, false, false, false, false, false, false, false] rfl rfl (by kernel_rfl) (by decide) (fun K hK => ?_)
  refine goes_ Try.func14 (by kernel_rfl) rfl #[.pointer (some ⟨a2, 0, none⟩)] (by rfl) rfl rfl (by (try simp only [List.map_toArray, List.map_cons, List.map_nil]); first | done | rfl) ?_
  refine (keys_ [(a2, e3), (b2, e2)] w12 A12.out (fun x hx => by simp only [List.mem_cons, List.not_mem_nil, or_false] at hx; rcases hx with rfl | rfl; exact wf1; exact wf2) (by simp)).mono ?_
  rintro x w13 ⟨v5, rfl, hr, hb⟩
  rw [ex_vis2] at hr
  obtain ⟨A5, c5, ev5⟩ := Kd.R_slice hr
  replace ev5 : v5 = .slice A5 2 c5 := ev5
  subst ev5
  refine ⟨_, rfl, ?_⟩
  have HM13 := Aside0.mk (below_step HM12.out hb)
  clear A12 HM12 hr
  refine hK.out _ _ (held9 hHeld hb) (fun hHeld => ?_)
  clear hK K hb
  refine norm_ (a' := ?_) ?_ ?_
  rotate_left
  · show Act.put _ (some 59) _ = _
    simp only [Act.put, List.setIfInBounds_toArray, List.set_cons_zero, List.set_cons_succ, i64_w, i32_w]
    rfl
  refine pure_ (i := 30) (N := some 60) (v := ?_) (a' := ?_) #[true, true, true, true, true, true, true, true, true, true, true, true, true, true, true, true, true, true, true, true, true, true, true, true, true, true, true, true, true, true, true, false, false, false, false, false, false, false, false, false] rfl rfl (by kernel_rfl) (fun _ _ _ h => h) (Or.inl ⟨by rfl, ?_⟩) ?_ ?_
  rotate_left
  · intro w'
    go_simp
    with_reducible rfl
  rotate_left
  · simp only [Act.put, List.setIfInBounds_toArray, List.set_cons_zero, List.set_cons_succ, i64_w, i32_w]
    rfl
  refine pure_ (i := 31) (N := some 61) (v := ?_) (a' := ?_) #[true, true, true, true, true, true, true, true, true, true, true, true, true, true, true, true, true, true, true, true, true, true, true, true, true, true, true, true, true, true, true, true, false, false, false, false, false, false, false, false] rfl rfl (by kernel_rfl) (fun _ _ _ h => h) (Or.inl ⟨by rfl, ?_⟩) ?_ ?_
  rotate_left
  · intro w'
    go_simp
    with_reducible rfl
  rotate_left
  · simp only [Act.put, List.setIfInBounds_toArray, List.set_cons_zero, List.set_cons_succ, i64_w, i32_w]
    rfl
  refine pure_ (i := 32) (N := some 62) (v := ?_) (a' := ?_) #[true, true, true, true, true, true, true, true, true, true, true, true, true, true, true, true, true, true, true, true, true, true, true, true, true, true, true, true, true, true, true, true, true, false, false, false, false, false, false, false] rfl rfl (by kernel_rfl) (fun _ _ _ h => h) (Or.inl ⟨by rfl, ?_⟩) ?_ ?_
  rotate_left
  · intro w'
    go_simp
    with_reducible rfl
  rotate_left
  · simp only [Act.put, List.setIfInBounds_toArray, List.set_cons_zero, List.set_cons_succ, i64_w, i32_w]
    rfl
  refine pure_ (i := 33) (N := some 63) (v := ?_) (a' := ?_) #[true, true, true, true, true, true, true, true, true, true, true, true, true, true, true, true, true, true, true, true, true, true, true, true, true, true, true, true, true, true, true, true, true, true, false, false, false, false, false, false] rfl rfl (by kernel_rfl) (fun _ _ _ h => h) (Or.inl ⟨by rfl, ?_⟩) ?_ ?_
  rotate_left
  · intro w'
    go_simp
    with_reducible rfl
  rotate_left
  · simp only [Act.put, List.setIfInBounds_toArray, List.set_cons_zero, List.set_cons_succ, i64_w, i32_w]
    rfl
  refine pure_ (i := 34) (N := some 64) (v := ?_) (a' := ?_) #[true, true, true, true, true, true, true, true, true, true, true, true, true, true, true, true, true, true, true, true, true, true, true, true, true, true, true, true, true, true, true, true, true, true, true, false, false, false, false, false] rfl rfl (by kernel_rfl) (fun _ _ _ h => h) (Or.inl ⟨by rfl, ?_⟩) ?_ ?_
  rotate_left
  · intro w'
    go_simp
    with_reducible rfl
  rotate_left
  · simp only [Act.put, List.setIfInBounds_toArray, List.set_cons_zero, List.set_cons_succ, i64_w, i32_w]
    rfl
  refine one_ (i := 35) (N := some 65) #[true, true, true, true, true, true, true, true, true, true, true, true, true, true, true, true, true, true, true, true, true, true, true, true, true, true, true, true, true, true, true, true, true, true, true, true, false, false, false, false] rfl rfl (by kernel_rfl) (by decide) (fun K hK => ?_)
  refine goes_ Try.func14 (by kernel_rfl) rfl #[.pointer none] (by rfl) rfl rfl (by (try simp only [List.map_toArray, List.map_cons, List.map_nil]); first | done | rfl) ?_
  refine (keys_ [] w13 trivial (fun x hx => by cases hx) (by simp)).mono ?_
  rintro x w14 ⟨v6, rfl, hr, hb⟩
  obtain ⟨A6, c6, ev6⟩ := Kd.R_slice hr
  replace ev6 : v6 = .slice A6 0 c6 := ev6
  subst ev6
  refine ⟨_, rfl, ?_⟩
  have HM14 := Aside0.mk (below_step HM13.out hb)
  clear HM13 hr
  refine hK.out _ _ (held9 hHeld hb) (fun hHeld => ?_)
  clear hK K hb
  refine norm_ (a' := ?_) ?_ ?_
  rotate_left
  · show Act.put _ (some 65) _ = _
    simp only [Act.put, List.setIfInBounds_toArray, List.set_cons_zero, List.set_cons_succ, i64_w, i32_w]
    rfl
  refine pure_ (i := 36) (N := some 66) (v := ?_) (a' := ?_) #[true, true, true, true, true, true, true, true, true, true, true, true, true, true, true, true, true, true, true, true, true, true, true, true, true, true, true, true, true, true, true, true, true, true, true, true, true, false, false, false] rfl rfl (by kernel_rfl) (fun _ _ _ h => h) (Or.inl ⟨by rfl, ?_⟩) ?_ ?_
  rotate_left
  · intro w'
    go_simp
    with_reducible rfl
  rotate_left
  · simp only [Act.put, List.setIfInBounds_toArray, List.set_cons_zero, List.set_cons_succ, i64_w, i32_w]
    rfl
  refine pure_ (i := 37) (N := some 67) (v := ?_) (a' := ?_) #[true, true, true, true, true, true, true, true, true, true, true, true, true, true, true, true, true, true, true, true, true, true, true, true, true, true, true, true, true, true, true, true, true, true, true, true, true, true, false, false] rfl rfl (by kernel_rfl) (fun _ _ _ h => h) (Or.inl ⟨by rfl, ?_⟩) ?_ ?_
  rotate_left
  · intro w'
    go_simp
    with_reducible rfl
  rotate_left
  · simp only [Act.put, List.setIfInBounds_toArray, List.set_cons_zero, List.set_cons_succ, i64_w, i32_w]
    rfl
  refine pure_ (i := 38) (N := some 68) (v := ?_) (a' := ?_) #[true, true, true, true, true, true, true, true, true, true, true, true, true, true, true, true, true, true, true, true, true, true, true, true, true, true, true, true, true, true, true, true, true, true, true, true, true, true, true, false] rfl rfl (by kernel_rfl) (fun _ _ _ h => h) (Or.inl ⟨by rfl, ?_⟩) ?_ ?_
  rotate_left
  · intro w'
    go_simp
    with_reducible rfl
  rotate_left
  · simp only [Act.put, List.setIfInBounds_toArray, List.set_cons_zero, List.set_cons_succ, i64_w, i32_w]
    rfl
  refine pure_ (i := 39) (N := some 0) (v := ?_) (a' := ?_) #[true, true, true, true, true, true, true, true, true, true, true, true, true, true, true, true, true, true, true, true, true, true, true, true, true, true, true, true, true, true, true, true, true, true, true, true, true, true, true, true] rfl rfl (by kernel_rfl) (fun _ _ _ h => h) (Or.inl ⟨by rfl, ?_⟩) ?_ ?_
  rotate_left
  · intro w'
    go_simp
    with_reducible rfl
  rotate_left
  · simp only [Act.put, List.setIfInBounds_toArray, List.set_cons_zero, List.set_cons_succ, i64_w, i32_w]
    rfl
  refine done_ (by kernel_rfl) ?_
  go_wp2
  go_ret
  exact ⟨by simp, HM14.out⟩
end Go.Proofs.Ytkdfbfhajojdeaa.Env
