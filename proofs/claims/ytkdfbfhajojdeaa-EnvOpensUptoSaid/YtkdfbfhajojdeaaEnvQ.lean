/- env.Open on environments in memory. Conditions: as the theorems say. -/
import Derived.Test.YtkdfbfhajojdeaaEnvN
namespace Go.Proofs.Ytkdfbfhajojdeaa.Env
open Go Go.RowKit Go.Proofs.YtkdfbfhajojdeaaW.PrintWords Go.Proofs.YtkdfbfhajojdeaaW.PrintLast Go.Proofs.YtkdfbfhajojdeaaW.PrintMore Go.Proofs.Ytkdfbfhajojdeaa.POP
set_option linter.unusedVariables false
set_option linter.unusedSimpArgs false
/-- A binding seen through another open. -/
def Nd.thr (via : Int) (e : Nd) : Nd := { e with vi := via }
theorem held8 {g g9 : Nat} {e : Nd} {u : Option Addr} {via : Int} {w : World} (h : w.heap[g]? = some (.cells (ndCells u e) 54 (0, 0))) (h9 : w.heap[g9]? = some (.cells #[.int .i64 e.dc, .int .i64 via, .pointer e.pa, .pointer e.pr] 41 (0, 0))) : w.cell? ⟨g, 1, none⟩ = some (.int .i64 e.k.f0) ∧ w.cell? ⟨g, 2, none⟩ = some (.string e.k.f1) ∧ w.cell? ⟨g9, 0, none⟩ = some (.int .i64 e.dc) ∧ w.cell? ⟨g9, 1, none⟩ = some (.int .i64 via) ∧ w.cell? ⟨g9, 2, none⟩ = some (.pointer e.pa) ∧ w.cell? ⟨g9, 3, none⟩ = some (.pointer e.pr) :=
  ⟨(blk_cell h 1).trans rfl, (blk_cell h 2).trans rfl, (blk_cell h9 0).trans rfl, (blk_cell h9 1).trans rfl, (blk_cell h9 2).trans rfl, (blk_cell h9 3).trans rfl⟩
set_option maxHeartbeats 8000000 in
set_option maxRecDepth 100000 in
theorem open_ (l lp : Ch) (via : Int) (w : World) (hl : At w l) (hp : At w lp) (hw : ∀ x ∈ lp, wfK x.2.k) (hn : lp.length ≤ 1599289640400) :
    Calls Try.prog 13 #[.pointer (ptr l), .pointer (ptr lp), .int .i64 via] w fun e w' => ∃ l2 : Ch, e = .returned (.pointer (ptr (l2 ++ l))) ∧ At w' (l2 ++ l) ∧ l2.map (·.2) = (visC lp).map (fun x => x.2.thr via) ∧ (∀ x ∈ l2, w.heap.size ≤ x.1) ∧ Below w.heap.size w w' := by
  have HL0 := Aside0.mk hl
  have HL := Aside0.mk hp
  have HN := Aside0.mk hn
  have HW := Aside0.mk hw
  have HM := Aside0.mk (Below.refl w.heap.size w)
  obtain ⟨vs, hvs⟩ : ∃ vs, vs = (visC lp).reverse := ⟨_, rfl⟩
  have hgs : ((visC lp).map (·.1)).reverse = vs.map (·.1) := by rw [hvs, List.map_reverse]
  have HVM : Aside0 (∀ x ∈ vs, x ∈ lp) := ⟨fun x hx => by rw [hvs, List.mem_reverse] at hx; exact selC_mem hx⟩
  have HVL : Aside0 (vs.length ≤ lp.length) := ⟨by rw [hvs, List.length_reverse]; exact selC_len [] lp⟩
  have HGS := Aside0.mk hgs
  have HVS := Aside0.mk hvs
  clear hl hp hn hw hgs hvs
  go_enter Try.func13, Try.ntmps13
  go_wp2_with (first | ((with_reducible refine gate_callee (f := 21) rfl ?_); refine goesL_ (some 11) rfl rfl Try.func21 (by kernel_rfl) rfl #[.pointer (ptr lp)] rfl (by (try simp only [List.map_toArray, List.map_cons, List.map_nil]); first | done | rfl) ?_; refine (visible_ lp _ (At.below HL.out (by repeat (first | (with_reducible first | exact HM.out | apply below_alloc | apply pw_below_drewN | apply below_drew1) | exact HM.out))) HW.out HN.out).mono ?_; rintro e w1 ⟨v1, rfl, hr, hb⟩; refine ⟨_, rfl, ?_⟩; rw [HGS.out] at hr; have HR := Aside0.mk (Kd.R_lower hr (below_size (by repeat (first | (with_reducible first | exact HM.out | apply below_alloc | apply pw_below_drewN | apply below_drew1) | exact HM.out)))); have n0_ := Aside0.mk (below_step (by repeat (first | (with_reducible first | exact HM.out | apply below_alloc | apply pw_below_drewN | apply below_drew1) | exact HM.out)) hb); clear HM; have HM := n0_; clear n0_ hr hb; obtain ⟨Av, cv, ev⟩ := Kd.R_slice HR.out; subst ev; rw [List.length_map] at HR ⊢))
  have HL1 := Aside0.mk (At.below HL.out (by repeat (first | (with_reducible first | exact HM.out | apply below_alloc | apply pw_below_drewN | apply below_drew1) | exact HM.out)))
  have HL2 := Aside0.mk (At.below HL0.out (by repeat (first | (with_reducible first | exact HM.out | apply below_alloc | apply pw_below_drewN | apply below_drew1) | exact HM.out)))
  go_loopg [0, 13] (vs.length + 1) (fun kq v0 v13 w' => ∃ (i : Nat) (a : Int) (l2 : Ch), v0 = .pointer (ptr (l2 ++ l)) ∧ v13 = .int .i64 a ∧ Aside0 (a = (i : Int)) ∧ Aside0 (kq + i = vs.length + 1 ∧ i ≤ vs.length) ∧ Aside0 (l2.map (·.2) = ((vs.take i).reverse).map (fun x => x.2.thr via)) ∧ Aside0 (At w' (l2 ++ l)) ∧ Aside0 (Kd.R kp 33 w' w.heap.size (fun _ => True) (.slice Av vs.length cv) (vs.map (·.1))) ∧ Aside0 (At w' lp) ∧ Aside0 (∀ x ∈ l2, w.heap.size ≤ x.1) ∧ Aside0 (Below w.heap.size w w'))
  case atStart => exact ⟨0, 0, [], rfl, rfl, ⟨rfl⟩, ⟨⟨by omega, by omega⟩⟩, ⟨rfl⟩, HL2, HR, HL1, ⟨fun x hx => by cases hx⟩, HM⟩
  case round =>
    clear HR HL1 HL2 HL HL0 HM
    obtain ⟨i, a, l2, rfl, rfl, HE, HK, HO, HA, HR, HL, HX, HB⟩ := hrel
    cases gk with
    | zero => have := HK.out; omega
    | succ k1 =>
      have HM := Aside0.mk (Below.refl wr.heap.size wr)
      by_cases c : a < (vs.length : Int)
      · have c0 : decide (a < (vs.length : Int)) = true := decide_eq_true c
        have hi : i < vs.length := by have := HE.out; omega
        have HV0 : Kd.R kp 33 wr w.heap.size (fun _ => True) (.slice Av (vs.map (·.1)).length cv) (vs.map (·.1)) := by rw [List.length_map]; exact HR.out
        obtain ⟨g0, cap, eg, gb, gl, _⟩ := Kd.R_form HV0 (by rw [List.length_map]; omega)
        injection eg with ea _ ec
        subst ea
        subst ec
        have p1 : (0 : Int) ≤ a := by have := HE.out; omega
        have q1 : a < (vs.length : Int) := c
        obtain ⟨ce, hl1, hM1, hc1, hf1⟩ := Kd.R_elem HR.out 0 a p1 q1
        obtain rfl : ce = [.pointer (some ⟨(vs.map (·.1)).getD a.toNat 0, 0, none⟩)] := hM1
        have hx1 := hc1 0 _ rfl
        obtain ⟨x, hx⟩ : ∃ x, vs[i]? = some x := ⟨vs[i], List.getElem?_eq_getElem hi⟩
        obtain ⟨g, e⟩ := x
        have hgd : (vs.map (·.1)).getD a.toNat 0 = g := by rw [HE.out, Int.toNat_natCast, List.getD_eq_getElem?_getD, List.getElem?_map, hx]; rfl
        rw [hgd] at hx1
        rw [show kp.sz = 1 from rfl, Nat.mul_one, Nat.add_zero] at hx1
        obtain ⟨u, hcu⟩ := At.mem HL.out (HVM.out _ (List.mem_of_getElem? hx))
        have CU := Aside0.mk hcu
        have y3 : wr.cell? ⟨g, 3, none⟩ = some (.int .i64 e.dc) := (blk_cell hcu 3).trans rfl
        have y4 : wr.cell? ⟨g, 4, none⟩ = some (.int .i64 e.vi) := (blk_cell hcu 4).trans rfl
        have y5 : wr.cell? ⟨g, 5, none⟩ = some (.pointer e.pa) := (blk_cell hcu 5).trans rfl
        have y6 : wr.cell? ⟨g, 6, none⟩ = some (.pointer e.pr) := (blk_cell hcu 6).trans rfl
        have ht : Aside0 (((vs.take (i + 1)).reverse).map (fun x => x.2.thr via) = e.thr via :: ((vs.take i).reverse).map (fun x => x.2.thr via)) := ⟨by rw [List.take_succ_eq_append_getElem hi, List.reverse_append]; rw [List.getElem?_eq_getElem hi] at hx; rw [Option.some.inj hx]; rfl⟩
        have ew : wrap64 (a + 1) = a + 1 := wid (by have := HE.out; omega) (by have := HE.out; have := HVL.out; have := HN.out; omega)
        replace p1 := eq_true p1
        replace q1 := eq_true q1
        clear hl1 hc1 hf1 hgd hx HV0 gl hcu
        go_wp2_with (first | ((with_reducible refine gate_dst (N := 9) rfl ?_); refine box_event ?hg (N := 9) ?hd (cs := #[.int .i64 0, .int .i64 0, .pointer none, .pointer none]) (t := 41) ?hr ?_; (case hd => rfl); (case hg => rfl); (case hr => first | (go_simp; done) | (go_simp; rfl)); intro g9 hg w1 hbox hb; have BK := Aside0.mk hbox; have GB := Aside0.mk ((by rw [hg]; exact (below_size (below_step HB.out (by repeat (first | (with_reducible first | exact HM.out | apply below_alloc | apply pw_below_drewN | apply below_drew1) | exact HM.out))))) : w.heap.size ≤ g9); have n0_ := Aside0.mk (below_step (by repeat (first | (with_reducible first | exact HM.out | apply below_alloc | apply pw_below_drewN | apply below_drew1) | exact HM.out)) hb); clear HM; have HM := n0_; clear n0_ hb hbox hg; have b0 : w1.cell? ⟨g9, 0, none⟩ = some (.int .i64 0) := (blk_cell BK.out 0).trans rfl; have b1 : w1.cell? ⟨g9, 1, none⟩ = some (.int .i64 0) := (blk_cell BK.out 1).trans rfl; have b2 : w1.cell? ⟨g9, 2, none⟩ = some (.pointer none) := (blk_cell BK.out 2).trans rfl; have b3 : w1.cell? ⟨g9, 3, none⟩ = some (.pointer none) := (blk_cell BK.out 3).trans rfl; have f0 := blk_frozen BK.out 0; have f1 := blk_frozen BK.out 1; have f2 := blk_frozen BK.out 2; have f3 := blk_frozen BK.out 3))
        have BK0 := Aside0.mk (blk_put BK.out 0 (.int .i64 e.dc) rfl)
        have BK1 := Aside0.mk (blk_put BK0.out 1 (.int .i64 e.vi) rfl)
        have BK2 := Aside0.mk (blk_put BK1.out 2 (.pointer e.pa) rfl)
        have BK3 := Aside0.mk (blk_put BK2.out 3 (.pointer e.pr) rfl)
        have BK4 := Aside0.mk (blk_put BK3.out 1 (.int .i64 via) rfl)
        have BKX := Aside0.mk (show ((((((w1.setCell ⟨g9, 0, none⟩ (.int .i64 e.dc)).setCell ⟨g9, 1, none⟩ (.int .i64 e.vi)).setCell ⟨g9, 2, none⟩ (.pointer e.pa)).setCell ⟨g9, 3, none⟩ (.pointer e.pr)).setCell ⟨g9, 1, none⟩ (.int .i64 via))).heap[g9]? = some (.cells #[.int .i64 e.dc, .int .i64 via, .pointer e.pa, .pointer e.pr] 41 (0, 0)) from BK4.out)
        have TX : Aside0 (TK (fun t => t = 41) wr (((((w1.setCell ⟨g9, 0, none⟩ (.int .i64 e.dc)).setCell ⟨g9, 1, none⟩ (.int .i64 e.vi)).setCell ⟨g9, 2, none⟩ (.pointer e.pa)).setCell ⟨g9, 3, none⟩ (.pointer e.pr)).setCell ⟨g9, 1, none⟩ (.int .i64 via))) := ⟨((((((TK.below (T := fun t => t = 41) HM.out).set BK.out rfl 0 (.int .i64 e.dc)).set BK0.out rfl 1 (.int .i64 e.vi)).set BK1.out rfl 2 (.pointer e.pa)).set BK2.out rfl 3 (.pointer e.pr)).set BK3.out rfl 1 (.int .i64 via))⟩
        have HBX := Aside0.mk (below_set (below_set (below_set (below_set (below_set (below_step HB.out HM.out) GB.out (v := .int .i64 e.dc) (j := 0)) GB.out (v := .int .i64 e.vi) (j := 1)) GB.out (v := .pointer e.pa) (j := 2)) GB.out (v := .pointer e.pr) (j := 3)) GB.out (v := .int .i64 via) (j := 1))
        clear BK BK0 BK1 BK2 BK3 BK4 HB b0 b1 b2 b3 f0 f1 f2 f3 GB HM y3 y4 y5 y6 hx1
        generalize (((((w1.setCell ⟨g9, 0, none⟩ (.int .i64 e.dc)).setCell ⟨g9, 1, none⟩ (.int .i64 e.vi)).setCell ⟨g9, 2, none⟩ (.pointer e.pa)).setCell ⟨g9, 3, none⟩ (.pointer e.pr)).setCell ⟨g9, 1, none⟩ (.int .i64 via)) = w2 at BKX TX HBX ⊢
        have n_ := Aside0.mk (At.same (fun g2 cs2 h2 => TX.out.bl g2 cs2 54 h2 (by decide)) HA.out)
        clear HA
        have HA := n_
        clear n_
        have n_ := Aside0.mk (At.same (fun g2 cs2 h2 => TX.out.bl g2 cs2 54 h2 (by decide)) HL.out)
        clear HL
        have HL := n_
        clear n_
        have n_ := Aside0.mk (TX.out.bl _ _ 54 CU.out (by decide))
        clear CU
        have CU := n_
        clear n_
        have n_ := Aside0.mk (R_tk HR.out (fun q hq => (List.mem_cons.mp hq).elim (fun h => h ▸ by decide) (fun h => by cases h)) TX.out)
        clear HR
        have HR := n_
        clear n_
        clear TX
        refine start_ (n := 8) (S := fun w' => w'.cell? ⟨g, 1, none⟩ = some (.int .i64 e.k.f0) ∧ w'.cell? ⟨g, 2, none⟩ = some (.string e.k.f1) ∧ w'.cell? ⟨g9, 0, none⟩ = some (.int .i64 e.dc) ∧ w'.cell? ⟨g9, 1, none⟩ = some (.int .i64 via) ∧ w'.cell? ⟨g9, 2, none⟩ = some (.pointer e.pa) ∧ w'.cell? ⟨g9, 3, none⟩ = some (.pointer e.pr)) (ds := []) #[false, false, false, false, false, false, false, false] (by kernel_rfl) rfl rfl (held8 (blk_drew CU.out) (blk_drew BKX.out)) (fun hHeld => ?_)
        have n_ := Aside0.mk (At.below HA.out (below_drew1 (Below.refl _ _)))
        clear HA
        have HA := n_
        clear n_
        have n_ := Aside0.mk (At.below HL.out (below_drew1 (Below.refl _ _)))
        clear HL
        have HL := n_
        clear n_
        have n_ := Aside0.mk (Kd.R_drew HR.out)
        clear HR
        have HR := n_
        clear n_
        have n_ := Aside0.mk (below_drew1 HBX.out)
        clear HBX
        have HBX := n_
        clear n_
        have n_ := Aside0.mk (blk_drew CU.out)
        clear CU
        have CU := n_
        clear n_
        have n_ := Aside0.mk (blk_drew BKX.out)
        clear BKX
        have BKX := n_
        clear n_
        generalize w2.drew = w3 at HA HL HR HBX CU BKX hHeld ⊢
        refine pure_ (i := 0) (N := some 23) (v := ?_) (a' := ?_) #[true, false, false, false, false, false, false, false] rfl rfl (by kernel_rfl) (fun _ _ _ h => h) (Or.inl ⟨by rfl, ?_⟩) ?_ ?_
        rotate_left
        · intro w'
          go_simp
          with_reducible rfl
        rotate_left
        · simp only [Act.put, List.setIfInBounds_toArray, List.set_cons_zero, List.set_cons_succ, i64_w, i32_w]
          rfl
        refine pure_ (i := 1) (N := some 24) (v := ?_) (a' := ?_) #[true, true, false, false, false, false, false, false] rfl rfl (by kernel_rfl) (fun _ _ _ h => h) (Or.inl ⟨by rfl, ?_⟩) ?_ ?_
        rotate_left
        · intro w'
          go_simp
          with_reducible rfl
        rotate_left
        · simp only [Act.put, List.setIfInBounds_toArray, List.set_cons_zero, List.set_cons_succ, i64_w, i32_w]
          rfl
        refine pure_ (i := 2) (N := some 25) (v := ?_) (a' := ?_) #[true, true, true, false, false, false, false, false] rfl rfl (by kernel_rfl) (fun _ _ _ h => h) (Or.inl ⟨by rfl, ?_⟩) ?_ ?_
        rotate_left
        · intro w'
          go_simp
          with_reducible rfl
        rotate_left
        · simp only [Act.put, List.setIfInBounds_toArray, List.set_cons_zero, List.set_cons_succ, i64_w, i32_w]
          rfl
        refine pure_ (i := 3) (N := some 26) (v := ?_) (a' := ?_) #[true, true, true, true, false, false, false, false] rfl rfl (by kernel_rfl) (fun _ _ _ h => h) (Or.inl ⟨by rfl, ?_⟩) ?_ ?_
        rotate_left
        · intro w'
          go_simp
          with_reducible rfl
        rotate_left
        · simp only [Act.put, List.setIfInBounds_toArray, List.set_cons_zero, List.set_cons_succ, i64_w, i32_w]
          rfl
        refine take_ (i := 4) (N := some 27) (v := ?_) (a' := ?_) #[true, true, true, true, true, false, false, false] rfl rfl (by kernel_rfl) (fun _ _ _ h => h) (Or.inl ⟨by rfl, ?_⟩) hHeld ?_ ?_
        rotate_left
        · rintro w' ⟨s0, s1, s2, s3, s4, s5⟩
          go_simp
          with_reducible rfl
        rotate_left
        · simp only [Act.put, List.setIfInBounds_toArray, List.set_cons_zero, List.set_cons_succ, i64_w, i32_w]
          rfl
        refine take_ (i := 5) (N := some 28) (v := ?_) (a' := ?_) #[true, true, true, true, true, true, false, false] rfl rfl (by kernel_rfl) (fun _ _ _ h => h) (Or.inl ⟨by rfl, ?_⟩) hHeld ?_ ?_
        rotate_left
        · rintro w' ⟨s0, s1, s2, s3, s4, s5⟩
          go_simp
          with_reducible rfl
        rotate_left
        · simp only [Act.put, List.setIfInBounds_toArray, List.set_cons_zero, List.set_cons_succ, i64_w, i32_w]
          rfl
        refine one_ (i := 6) (N := some 29) #[true, true, true, true, true, true, true, false] rfl rfl (by kernel_rfl) (by decide) (fun K hK => ?_)
        refine goes_ Try.func19 (by kernel_rfl) rfl #[.pointer (ptr (l2 ++ l)), .agg #[.int .i64 e.k.f0, .string e.k.f1], .agg #[.int .i64 e.dc, .int .i64 via, .pointer e.pa, .pointer e.pr]] (by rfl) rfl rfl (by (try simp only [List.map_toArray, List.map_cons, List.map_nil]); first | done | rfl) ?_
        refine (with_ (ptr (l2 ++ l)) (e.thr via) w3).mono ?_
        rintro x w4 ⟨g3, rfl, hg3, hc3, hb3⟩
        refine ⟨_, rfl, ?_⟩
        have HA3 : Aside0 (At w4 (((g3, e.thr via) :: l2) ++ l)) := ⟨⟨hc3, At.below HA.out hb3⟩⟩
        have HL3 := Aside0.mk (At.below HL.out hb3)
        have HR3 := Aside0.mk (Kd.R_below HR.out hb3)
        have HB3 := Aside0.mk (below_step HBX.out hb3)
        have CU3 := Aside0.mk (blk_below CU.out hb3)
        have BK3 := Aside0.mk (blk_below BKX.out hb3)
        have HX3 : Aside0 (∀ x ∈ ((g3, e.thr via) :: l2), w.heap.size ≤ x.1) := ⟨fun x hx => (List.mem_cons.mp hx).elim (fun h => h ▸ Nat.le_trans HBX.out.size hg3) (fun h => HX.out x h)⟩
        clear HA HL HR HBX CU BKX HX hg3 hc3 hb3
        refine hK.out _ _ (held8 CU3.out BK3.out) (fun hHeld => ?_)
        clear hK K
        refine norm_ (a' := ?_) ?_ ?_
        rotate_left
        · show Act.put _ (some 29) _ = _
          simp only [Act.put, List.setIfInBounds_toArray, List.set_cons_zero, List.set_cons_succ, i64_w, i32_w]
          rfl
        refine pure_ (i := 7) (N := some 0) (v := ?_) (a' := ?_) #[true, true, true, true, true, true, true, true] rfl rfl (by kernel_rfl) (fun _ _ _ h => h) (Or.inl ⟨by rfl, ?_⟩) ?_ ?_
        rotate_left
        · intro w'
          go_simp
          with_reducible rfl
        rotate_left
        · simp only [Act.put, List.setIfInBounds_toArray, List.set_cons_zero, List.set_cons_succ, i64_w, i32_w]
          rfl
        refine done_ (by kernel_rfl) ?_
        clear hHeld
        go_wp2
        go_roundg k1
        case measure => omega
        case rel => exact ⟨i + 1, a + 1, (g3, e.thr via) :: l2, rfl, by rw [ew], ⟨by rw [HE.out]; rfl⟩, ⟨by have := HK.out; omega⟩, ⟨by rw [ht.out, List.map_cons, HO.out]⟩, HA3, HR3, HL3, HX3, HB3⟩
      · have c0 : decide (a < (vs.length : Int)) = false := decide_eq_false c
        have ei : i = vs.length := by have := HE.out; have := HK.out; omega
        go_wp2
        go_ret
        exact ⟨l2, rfl, HA.out, by rw [HO.out, ei, List.take_length, HVS.out, List.reverse_reverse], fun a b hx => HX.out (a, b) hx, HB.out⟩
end Go.Proofs.Ytkdfbfhajojdeaa.Env
