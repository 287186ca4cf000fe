/- Since. Conditions: as the theorems say. -/
import Derived.Test.YtkdfbfhajojdeaaEnvF
namespace Go.Proofs.Ytkdfbfhajojdeaa.Env
open Go Go.RowKit Go.Proofs.YtkdfbfhajojdeaaW.PrintWords Go.Proofs.YtkdfbfhajojdeaaW.PrintLast Go.Proofs.YtkdfbfhajojdeaaW.PrintMore Go.Proofs.Ytkdfbfhajojdeaa.POP
set_option linter.unusedVariables false
set_option linter.unusedSimpArgs false
theorem upto_len (pb : Option Addr) : ∀ l : Ch, (upto pb l).length ≤ l.length
  | [] => Nat.le_refl _
  | x :: r => by
    have := upto_len pb r
    rw [upto]
    by_cases c : some (⟨x.1, 0, none⟩ : Addr) = pb
    · rw [if_pos c]
      exact Nat.zero_le _
    · rw [if_neg c, List.length_cons, List.length_cons]
      omega
set_option maxHeartbeats 8000000 in
set_option maxRecDepth 100000 in
theorem since_ (l : Ch) (pb : Option Addr) (w : World) (hl : At w l) (hn : l.length ≤ 1599289640400) (hpb : ∀ a, pb = some a → ∃ ca t, w.heap[a.block]? = some (.cells ca t (0, 0))) :
    Calls Try.prog 18 #[.pointer (ptr l), .pointer pb] w fun e w' => ∃ l2 : Ch, e = .returned (.pointer (ptr l2)) ∧ At w' l2 ∧ l2.map (·.2) = (upto pb l).map (·.2) ∧ Below w.heap.size w w' := by
  have HL := Aside0.mk hl
  have HN := Aside0.mk hn
  have HPB := Aside0.mk hpb
  have HM := Aside0.mk (Below.refl w.heap.size w)
  obtain ⟨vs, hvs⟩ : ∃ vs, vs = (upto pb l).reverse := ⟨_, rfl⟩
  have hgs : ((selC (fun _ _ => true) [] (upto pb l)).map (·.1)).reverse = vs.map (·.1) := by rw [selC_all, hvs, List.map_reverse]
  have HVM : Aside0 (∀ x ∈ vs, x ∈ l) := ⟨fun x hx => by rw [hvs, List.mem_reverse] at hx; exact upto_mem hx⟩
  have HVL : Aside0 (vs.length ≤ l.length) := ⟨by rw [hvs, List.length_reverse]; exact upto_len pb l⟩
  have HGS := Aside0.mk hgs
  have HVS := Aside0.mk hvs
  clear hl hn hpb hgs hvs
  go_enter Try.func18, Try.ntmps18
  go_wp2_with (first | ((with_reducible refine gate_callee (f := 25) rfl ?_); refine goesL_ (some 10) rfl rfl Try.func25 (by kernel_rfl) rfl #[.pointer (ptr l), .pointer pb, .func (.func 26) #[] #[]] rfl (by (try simp only [List.map_toArray, List.map_cons, List.map_nil]); first | done | rfl) ?_; refine (some26 l pb w _ (fun _ _ => true) (fun _ _ => True) (At.below HL.out (by repeat (first | (with_reducible first | exact HM.out | apply below_alloc | apply pw_below_drewN | apply below_drew1) | exact HM.out))) (by repeat (first | (with_reducible first | exact HM.out | apply below_alloc | apply pw_below_drewN | apply below_drew1) | exact HM.out)) trivial HN.out ?ipb ?ib ?ig ?ist).mono ?_; (case ipb => exact fun a h => by obtain ⟨ca, t, h_⟩ := HPB.out a h; exact ⟨ca, t, blk_below h_ (by repeat (first | (with_reducible first | exact HM.out | apply below_alloc | apply pw_below_drewN | apply below_drew1) | exact HM.out))⟩); (case ib => exact fun _ _ _ _ _ => trivial); (case ig => exact fun _ _ _ _ _ _ _ => trivial); (case ist => exact fun d x r w2 _ _ _ hB => (every_ _ w2).mono (fun e w3 ⟨he, hw3⟩ => ⟨he, trivial, hw3 ▸ hB, hw3 ▸ TK.refl _ _⟩)); rintro e w1 ⟨v1, rfl, hr, hb, ht, -⟩; refine ⟨_, rfl, ?_⟩; rw [HGS.out] at hr; have HR := Aside0.mk hr; have HL1 := Aside0.mk (At.same (fun g2 cs2 h2 => ht.bl g2 cs2 54 h2 (fun h => h)) (At.below HL.out (by repeat (first | (with_reducible first | exact HM.out | apply below_alloc | apply pw_below_drewN | apply below_drew1) | exact HM.out)))); clear HM; have HM := Aside0.mk hb; clear hr hb ht; obtain ⟨Av, cv, ev⟩ := Kd.R_slice HR.out; subst ev; rw [List.length_map] at HR ⊢))
  go_loopg [5, 12] (vs.length + 1) (fun kq v5 v12 w' => ∃ (i : Nat) (a : Int) (l2 : Ch), v5 = .pointer (ptr l2) ∧ v12 = .int .i64 a ∧ Aside0 (a = (i : Int)) ∧ Aside0 (kq + i = vs.length + 1 ∧ i ≤ vs.length) ∧ Aside0 (l2.map (·.2) = ((vs.take i).reverse).map (·.2)) ∧ Aside0 (At w' l2) ∧ Aside0 (Kd.R kp 33 w' w.heap.size (fun _ => True) (.slice Av vs.length cv) (vs.map (·.1))) ∧ Aside0 (At w' l) ∧ Aside0 (Below w.heap.size w w'))
  case atStart => exact ⟨0, 0, [], rfl, rfl, ⟨rfl⟩, ⟨⟨by omega, by omega⟩⟩, ⟨rfl⟩, ⟨trivial⟩, HR, HL1, HM⟩
  case round =>
    clear HR HL1 HL HM HPB
    obtain ⟨i, a, l2, rfl, rfl, HE, HK, HO, HA, HR, HL, HM⟩ := hrel
    cases gk with
    | zero => have := HK.out; omega
    | succ k1 =>
      by_cases c : a < (vs.length : Int)
      · have c0 : decide (a < (vs.length : Int)) = true := decide_eq_true c
        have hi : i < vs.length := by have := HE.out; omega
        have HV0 : Kd.R kp 33 wr w.heap.size (fun _ => True) (.slice Av (vs.map (·.1)).length cv) (vs.map (·.1)) := by rw [List.length_map]; exact HR.out
        obtain ⟨g0, cap, eg, gb, gl, _⟩ := Kd.R_form HV0 (by rw [List.length_map]; omega)
        injection eg with ea _ ec
        subst ea
        subst ec
        have p1 : (0 : Int) ≤ a := by have := HE.out; omega
        have q1 : a < (vs.length : Int) := c
        obtain ⟨ce, hl1, hM1, hc1, hf1⟩ := Kd.R_elem HR.out 0 a p1 q1
        obtain rfl : ce = [.pointer (some ⟨(vs.map (·.1)).getD a.toNat 0, 0, none⟩)] := hM1
        have hx1 := hc1 0 _ rfl
        obtain ⟨x, hx⟩ : ∃ x, vs[i]? = some x := ⟨vs[i], List.getElem?_eq_getElem hi⟩
        obtain ⟨g, e⟩ := x
        have hgd : (vs.map (·.1)).getD a.toNat 0 = g := by rw [HE.out, Int.toNat_natCast, List.getD_eq_getElem?_getD, List.getElem?_map, hx]; rfl
        rw [hgd] at hx1
        rw [show kp.sz = 1 from rfl, Nat.mul_one, Nat.add_zero] at hx1
        obtain ⟨u, hcu⟩ := At.mem HL.out (HVM.out _ (List.mem_of_getElem? hx))
        have CU := Aside0.mk hcu
        have ht : Aside0 (((vs.take (i + 1)).reverse).map (·.2) = e :: ((vs.take i).reverse).map (·.2)) := ⟨by rw [List.take_succ_eq_append_getElem hi, List.reverse_append]; rw [List.getElem?_eq_getElem hi] at hx; rw [Option.some.inj hx]; rfl⟩
        have ew : wrap64 (a + 1) = a + 1 := wid (by have := HE.out; omega) (by have := HE.out; have := HVL.out; have := HN.out; omega)
        replace p1 := eq_true p1
        replace q1 := eq_true q1
        clear hl1 hc1 hf1 hgd hx HV0 gl hcu
        go_wp2
        refine start_ (n := 11) (S := fun w' => w'.cell? ⟨g, 1, none⟩ = some (.int .i64 e.k.f0) ∧ w'.cell? ⟨g, 2, none⟩ = some (.string e.k.f1) ∧ w'.cell? ⟨g, 3, none⟩ = some (.int .i64 e.dc) ∧ w'.cell? ⟨g, 4, none⟩ = some (.int .i64 e.vi) ∧ w'.cell? ⟨g, 5, none⟩ = some (.pointer e.pa) ∧ w'.cell? ⟨g, 6, none⟩ = some (.pointer e.pr)) (ds := []) #[false, false, false, false, false, false, false, false, false, false, false] (by kernel_rfl) rfl rfl ⟨(blk_cell CU.out 1).trans rfl, (blk_cell CU.out 2).trans rfl, (blk_cell CU.out 3).trans rfl, (blk_cell CU.out 4).trans rfl, (blk_cell CU.out 5).trans rfl, (blk_cell CU.out 6).trans rfl⟩ (fun hHeld => ?_)
        have n_ := Aside0.mk (At.below HA.out (below_drew1 (Below.refl _ _)))
        clear HA
        have HA := n_
        clear n_
        have n_ := Aside0.mk (At.below HL.out (below_drew1 (Below.refl _ _)))
        clear HL
        have HL := n_
        clear n_
        have n_ := Aside0.mk (Kd.R_drew HR.out)
        clear HR
        have HR := n_
        clear n_
        have n_ := Aside0.mk (below_drew1 HM.out)
        clear HM
        have HM := n_
        clear n_
        have n_ := Aside0.mk (blk_drew CU.out)
        clear CU
        have CU := n_
        clear n_
        clear hx1
        generalize wr.drew = w2 at HA HL HR HM CU hHeld ⊢
        refine pure_ (i := 0) (N := some 16) (v := ?_) (a' := ?_) #[true, false, false, false, false, false, false, false, false, false, false] rfl rfl (by kernel_rfl) (fun _ _ _ h => h) (Or.inl ⟨by rfl, ?_⟩) ?_ ?_
        rotate_left
        · intro w'
          go_simp
          with_reducible rfl
        rotate_left
        · simp only [Act.put, List.setIfInBounds_toArray, List.set_cons_zero, List.set_cons_succ, i64_w, i32_w]
          rfl
        refine pure_ (i := 1) (N := some 17) (v := ?_) (a' := ?_) #[true, true, false, false, false, false, false, false, false, false, false] rfl rfl (by kernel_rfl) (fun _ _ _ h => h) (Or.inl ⟨by rfl, ?_⟩) ?_ ?_
        rotate_left
        · intro w'
          go_simp
          with_reducible rfl
        rotate_left
        · simp only [Act.put, List.setIfInBounds_toArray, List.set_cons_zero, List.set_cons_succ, i64_w, i32_w]
          rfl
        refine pure_ (i := 2) (N := some 18) (v := ?_) (a' := ?_) #[true, true, true, false, false, false, false, false, false, false, false] rfl rfl (by kernel_rfl) (fun _ _ _ h => h) (Or.inl ⟨by rfl, ?_⟩) ?_ ?_
        rotate_left
        · intro w'
          go_simp
          with_reducible rfl
        rotate_left
        · simp only [Act.put, List.setIfInBounds_toArray, List.set_cons_zero, List.set_cons_succ, i64_w, i32_w]
          rfl
        refine pure_ (i := 3) (N := some 19) (v := ?_) (a' := ?_) #[true, true, true, true, false, false, false, false, false, false, false] rfl rfl (by kernel_rfl) (fun _ _ _ h => h) (Or.inl ⟨by rfl, ?_⟩) ?_ ?_
        rotate_left
        · intro w'
          go_simp
          with_reducible rfl
        rotate_left
        · simp only [Act.put, List.setIfInBounds_toArray, List.set_cons_zero, List.set_cons_succ, i64_w, i32_w]
          rfl
        refine pure_ (i := 5) (N := some 21) (v := ?_) (a' := ?_) #[true, true, true, true, false, true, false, false, false, false, false] rfl rfl (by kernel_rfl) (fun _ _ _ h => h) (Or.inl ⟨by rfl, ?_⟩) ?_ ?_
        rotate_left
        · intro w'
          go_simp
          with_reducible rfl
        rotate_left
        · simp only [Act.put, List.setIfInBounds_toArray, List.set_cons_zero, List.set_cons_succ, i64_w, i32_w]
          rfl
        refine pure_ (i := 6) (N := some 22) (v := ?_) (a' := ?_) #[true, true, true, true, false, true, true, false, false, false, false] rfl rfl (by kernel_rfl) (fun _ _ _ h => h) (Or.inl ⟨by rfl, ?_⟩) ?_ ?_
        rotate_left
        · intro w'
          go_simp
          with_reducible rfl
        rotate_left
        · simp only [Act.put, List.setIfInBounds_toArray, List.set_cons_zero, List.set_cons_succ, i64_w, i32_w]
          rfl
        refine pure_ (i := 7) (N := some 23) (v := ?_) (a' := ?_) #[true, true, true, true, false, true, true, true, false, false, false] rfl rfl (by kernel_rfl) (fun _ _ _ h => h) (Or.inl ⟨by rfl, ?_⟩) ?_ ?_
        rotate_left
        · intro w'
          go_simp
          with_reducible rfl
        rotate_left
        · simp only [Act.put, List.setIfInBounds_toArray, List.set_cons_zero, List.set_cons_succ, i64_w, i32_w]
          rfl
        refine take_ (i := 4) (N := some 20) (v := ?_) (a' := ?_) #[true, true, true, true, true, true, true, true, false, false, false] rfl rfl (by kernel_rfl) (fun _ _ _ h => h) (Or.inl ⟨by rfl, ?_⟩) hHeld ?_ ?_
        rotate_left
        · rintro w' ⟨s0, s1, s2, s3, s4, s5⟩
          go_simp
          with_reducible rfl
        rotate_left
        · simp only [Act.put, List.setIfInBounds_toArray, List.set_cons_zero, List.set_cons_succ, i64_w, i32_w]
          rfl
        refine take_ (i := 8) (N := some 24) (v := ?_) (a' := ?_) #[true, true, true, true, true, true, true, true, true, false, false] rfl rfl (by kernel_rfl) (fun _ _ _ h => h) (Or.inl ⟨by rfl, ?_⟩) hHeld ?_ ?_
        rotate_left
        · rintro w' ⟨s0, s1, s2, s3, s4, s5⟩
          go_simp
          with_reducible rfl
        rotate_left
        · simp only [Act.put, List.setIfInBounds_toArray, List.set_cons_zero, List.set_cons_succ, i64_w, i32_w]
          rfl
        refine one_ (i := 9) (N := some 25) #[true, true, true, true, true, true, true, true, true, true, false] rfl rfl (by kernel_rfl) (by decide) (fun K hK => ?_)
        refine goes_ Try.func19 (by kernel_rfl) rfl #[.pointer (ptr l2), .agg #[.int .i64 e.k.f0, .string e.k.f1], .agg #[.int .i64 e.dc, .int .i64 e.vi, .pointer e.pa, .pointer e.pr]] (by rfl) rfl rfl (by (try simp only [List.map_toArray, List.map_cons, List.map_nil]); first | done | rfl) ?_
        refine (with_ (ptr l2) e w2).mono ?_
        rintro x w3 ⟨g3, rfl, hg3, hc3, hb3⟩
        refine ⟨_, rfl, ?_⟩
        have HA3 : Aside0 (At w3 ((g3, e) :: l2)) := ⟨⟨hc3, At.below HA.out hb3⟩⟩
        have HL3 := Aside0.mk (At.below HL.out hb3)
        have HR3 := Aside0.mk (Kd.R_below HR.out hb3)
        have HM3 := Aside0.mk (below_step HM.out hb3)
        have CU3 := Aside0.mk (blk_below CU.out hb3)
        clear HA HL HR HM CU hg3 hc3 hb3
        refine hK.out _ _ ⟨(blk_cell CU3.out 1).trans rfl, (blk_cell CU3.out 2).trans rfl, (blk_cell CU3.out 3).trans rfl, (blk_cell CU3.out 4).trans rfl, (blk_cell CU3.out 5).trans rfl, (blk_cell CU3.out 6).trans rfl⟩ (fun hHeld => ?_)
        clear hK K
        refine norm_ (a' := ?_) ?_ ?_
        rotate_left
        · show Act.put _ (some 25) _ = _
          simp only [Act.put, List.setIfInBounds_toArray, List.set_cons_zero, List.set_cons_succ, i64_w, i32_w]
          rfl
        refine pure_ (i := 10) (N := some 5) (v := ?_) (a' := ?_) #[true, true, true, true, true, true, true, true, true, true, true] rfl rfl (by kernel_rfl) (fun _ _ _ h => h) (Or.inl ⟨by rfl, ?_⟩) ?_ ?_
        rotate_left
        · intro w'
          go_simp
          with_reducible rfl
        rotate_left
        · simp only [Act.put, List.setIfInBounds_toArray, List.set_cons_zero, List.set_cons_succ, i64_w, i32_w]
          rfl
        refine done_ (by kernel_rfl) ?_
        go_wp2
        go_roundg k1
        case measure => omega
        case rel => exact ⟨i + 1, a + 1, (g3, e) :: l2, rfl, by rw [ew], ⟨by rw [HE.out]; rfl⟩, ⟨by have := HK.out; omega⟩, ⟨by rw [ht.out, List.map_cons, HO.out]⟩, HA3, HR3, HL3, HM3⟩
      · have c0 : decide (a < (vs.length : Int)) = false := decide_eq_false c
        have ei : i = vs.length := by have := HE.out; have := HK.out; omega
        go_wp2
        go_ret
        exact ⟨l2, rfl, HA.out, by rw [HO.out, ei, List.take_length, HVS.out, List.reverse_reverse], HM.out⟩
end Go.Proofs.Ytkdfbfhajojdeaa.Env
