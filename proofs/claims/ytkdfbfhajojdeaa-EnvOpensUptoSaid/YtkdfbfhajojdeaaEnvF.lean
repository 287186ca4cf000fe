/- Keys. Conditions: as the theorems say. -/
import Derived.Test.YtkdfbfhajojdeaaEnvE
namespace Go.Proofs.Ytkdfbfhajojdeaa.Env
open Go Go.RowKit Go.Proofs.YtkdfbfhajojdeaaW.PrintWords Go.Proofs.YtkdfbfhajojdeaaW.PrintLast Go.Proofs.YtkdfbfhajojdeaaW.PrintMore Go.Proofs.Ytkdfbfhajojdeaa.POP
set_option linter.unusedVariables false
set_option linter.unusedSimpArgs false
theorem selC_len {dec : Ch → Nat × Nd → Bool} : ∀ (d l : Ch), (selC dec d l).length ≤ l.length
  | _, [] => Nat.le_refl _
  | d, x :: r => by
    have := selC_len (dec := dec) (d ++ [x]) r
    rw [selC]
    by_cases c : dec d x = true
    · rw [if_pos c, List.length_cons, List.length_cons]
      omega
    · rw [if_neg c, List.length_cons]
      omega
set_option maxHeartbeats 8000000 in
set_option maxRecDepth 100000 in
theorem keys_ (l : Ch) (w : World) (hl : At w l) (hw : ∀ x ∈ l, wfK x.2.k) (hn : l.length ≤ 1599289640400) :
    Calls Try.prog 14 #[.pointer (ptr l)] w fun e w' => ∃ v : Value, e = .returned v ∧ Kd.R k28 28 w' w.heap.size (fun _ => True) v ((visC l).reverse.map (·.2.k)) ∧ Below w.heap.size w w' := by
  have HL := Aside0.mk hl
  have HW := Aside0.mk hw
  have HN := Aside0.mk hn
  have HM := Aside0.mk (Below.refl w.heap.size w)
  obtain ⟨vs, hvs⟩ : ∃ vs, vs = (visC l).reverse := ⟨_, rfl⟩
  have hgs : ((visC l).map (·.1)).reverse = vs.map (·.1) := by rw [hvs, List.map_reverse]
  have HVM : Aside0 (∀ x ∈ vs, x ∈ l) := ⟨fun x hx => by rw [hvs, List.mem_reverse] at hx; exact selC_mem hx⟩
  have HVL : Aside0 (vs.length ≤ l.length) := ⟨by rw [hvs, List.length_reverse]; exact selC_len [] l⟩
  have HGS := Aside0.mk hgs
  rw [← hvs]
  clear hl hw hn hvs hgs
  go_enter Try.func14, Try.ntmps14
  go_wp2_with (first | ((with_reducible refine gate_callee (f := 21) rfl ?_); refine goesL_ (some 7) rfl rfl Try.func21 (by kernel_rfl) rfl #[.pointer (ptr l)] rfl (by (try simp only [List.map_toArray, List.map_cons, List.map_nil]); first | done | rfl) ?_; refine (visible_ l _ (At.below HL.out (by repeat (first | (with_reducible first | exact HM.out | apply below_alloc | apply pw_below_drewN | apply below_drew1) | exact HM.out))) HW.out HN.out).mono ?_; rintro e w1 ⟨v1, rfl, hr, hb⟩; refine ⟨_, rfl, ?_⟩; rw [HGS.out] at hr; have HR := Aside0.mk (Kd.R_lower hr (below_size (by repeat (first | (with_reducible first | exact HM.out | apply below_alloc | apply pw_below_drewN | apply below_drew1) | exact HM.out)))); have n0_ := Aside0.mk (below_step (by repeat (first | (with_reducible first | exact HM.out | apply below_alloc | apply pw_below_drewN | apply below_drew1) | exact HM.out)) hb); clear HM; have HM := n0_; clear n0_ hr hb; obtain ⟨Av, cv, ev⟩ := Kd.R_slice HR.out; subst ev; rw [List.length_map] at HR ⊢))
  have HL1 := Aside0.mk (At.below HL.out (by repeat (first | (with_reducible first | exact HM.out | apply below_alloc | apply pw_below_drewN | apply below_drew1) | exact HM.out)))
  go_loopg [3, 9] (vs.length + 1) (fun kq v3 v9 w' => ∃ (i : Nat) (a : Int), v9 = .int .i64 a ∧ Aside0 (a = (i : Int)) ∧ Aside0 (kq + i = vs.length + 1 ∧ i ≤ vs.length) ∧ Aside0 (Kd.R k28 28 w' w.heap.size (fun _ => True) v3 ((vs.take i).map (·.2.k))) ∧ Aside0 (Kd.R kp 33 w' w.heap.size (fun _ => True) (.slice Av vs.length cv) (vs.map (·.1))) ∧ Aside0 (At w' l) ∧ Aside0 (Below w.heap.size w w'))
  case atStart => exact ⟨0, 0, rfl, ⟨rfl⟩, ⟨⟨by omega, by omega⟩⟩, ⟨Kd.R_nil _ _ _ _ _⟩, HR, HL1, HM⟩
  case round =>
    clear HR HL1 HL HM
    obtain ⟨i, a, rfl, HE, HK, HO, HR, HL, HM⟩ := hrel
    cases gk with
    | zero => have := HK.out; omega
    | succ k1 =>
      by_cases c : a < (vs.length : Int)
      · have c0 : decide (a < (vs.length : Int)) = true := decide_eq_true c
        have hi : i < vs.length := by have := HE.out; omega
        have HV0 : Kd.R kp 33 wr w.heap.size (fun _ => True) (.slice Av (vs.map (·.1)).length cv) (vs.map (·.1)) := by rw [List.length_map]; exact HR.out
        obtain ⟨g0, cap, eg, gb, gl, _⟩ := Kd.R_form HV0 (by rw [List.length_map]; omega)
        injection eg with ea _ ec
        subst ea
        subst ec
        have p1 : (0 : Int) ≤ a := by have := HE.out; omega
        have q1 : a < (vs.length : Int) := c
        obtain ⟨ce, hl1, hM1, hc1, hf1⟩ := Kd.R_elem HR.out 0 a p1 q1
        obtain rfl : ce = [.pointer (some ⟨(vs.map (·.1)).getD a.toNat 0, 0, none⟩)] := hM1
        have hx1 := hc1 0 _ rfl
        obtain ⟨x, hx⟩ : ∃ x, vs[i]? = some x := ⟨vs[i], List.getElem?_eq_getElem hi⟩
        obtain ⟨g, e⟩ := x
        have hgd : (vs.map (·.1)).getD a.toNat 0 = g := by rw [HE.out, Int.toNat_natCast, List.getD_eq_getElem?_getD, List.getElem?_map, hx]; rfl
        rw [hgd] at hx1
        rw [show kp.sz = 1 from rfl, Nat.mul_one, Nat.add_zero] at hx1
        obtain ⟨u, hcu⟩ := At.mem HL.out (HVM.out _ (List.mem_of_getElem? hx))
        have y1 : wr.cell? ⟨g, 1, none⟩ = some (.int .i64 e.k.f0) := (blk_cell hcu 1).trans rfl
        have y2 : wr.cell? ⟨g, 2, none⟩ = some (.string e.k.f1) := (blk_cell hcu 2).trans rfl
        have ht : Aside0 ((vs.take (i + 1)).map (·.2.k) = (vs.take i).map (·.2.k) ++ [e.k]) := ⟨by rw [List.take_succ_eq_append_getElem hi, List.map_append, List.map_singleton]; rw [List.getElem?_eq_getElem hi] at hx; rw [Option.some.inj hx]⟩
        have hlt : Aside0 (((vs.take i).map (·.2.k)).length ≤ 1599289640400) := ⟨by rw [List.length_map]; have h1_ := List.length_take_le i vs; have h2_ := HVL.out; have h3_ := HN.out; omega⟩
        have ew : wrap64 (a + 1) = a + 1 := wid (by have := HE.out; omega) (by have := HE.out; have := HVL.out; have := HN.out; omega)
        replace p1 := eq_true p1
        replace q1 := eq_true q1
        clear hl1 hc1 hf1 hgd hx HV0 gl
        go_wp2_with (first | ((with_reducible refine gate_builtin (b := .append) (xs := #[.tmp 13, .tmp 18]) rfl ?_); at_builtin; refine Kd.R_append k28 (w0 := w) w.heap.size rfl (.tmp 13) (.tmp 18) 24 28 (.agg #[(.int .i64 0), (.string ⟨#[]⟩)]) 24 rfl Try.underlying24 info28 rfl (by decide) (by omega) u3 ((vs.take i).map (·.2.k)) e.k [.int .i64 e.k.f0, .string e.k.f1] (fun _ => True) (fun _ => False) rfl (by first | (go_simp; done) | (go_simp; rfl)) ?aP (fun _ hk => hk.elim) ?aF ?aO ?aB ?aS ?aL ?_; (case aP => exact k28_mkM _ _ _ e.k); (case aF => exact (fun _ _ => trivial)); (case aO => exact (by (with_reducible repeat (first | apply Kd.R_alloc | apply Kd.R_drewN | apply Kd.R_drew)); exact HO.out)); (case aB => exact (by repeat (first | (with_reducible first | exact HM.out | apply below_alloc | apply pw_below_drewN | apply below_drew1) | exact HM.out))); (case aS => exact (below_size (by repeat (first | (with_reducible first | exact HM.out | apply below_alloc | apply pw_below_drewN | apply below_drew1) | exact HM.out)))); (case aL => have := hlt.out; omega); intro v6 w6 ho6 hb6 hg6 hat6; rw [← ht.out] at ho6; have HO6 := Aside0.mk ho6; have HM6 := Aside0.mk hb6; have HR6 := Aside0.mk (Kd.R_over' (by (with_reducible repeat (first | apply Kd.R_alloc | apply Kd.R_drewN | apply Kd.R_drew)); exact HR.out) (Kd.R_typed (by (with_reducible repeat (first | apply Kd.R_alloc | apply Kd.R_drewN | apply Kd.R_drew)); exact HO.out)) (by decide) hg6); have HL6 := Aside0.mk (At.grown HL.out (Kd.R_typed HO.out) (by decide) hg6); clear ho6 hb6 hg6 hat6))
        go_roundg k1
        case measure => omega
        case rel => exact ⟨i + 1, a + 1, rfl, ⟨by rw [HE.out]; rfl⟩, ⟨by have := HK.out; omega⟩, HO6, HR6, HL6, HM6⟩
      · have c0 : decide (a < (vs.length : Int)) = false := decide_eq_false c
        have ei : i = vs.length := by have := HE.out; have := HK.out; omega
        go_wp2
        go_ret
        exact ⟨_, rfl, by have h_ := HO.out; rw [ei, List.take_length] at h_; exact h_, HM.out⟩
end Go.Proofs.Ytkdfbfhajojdeaa.Env
