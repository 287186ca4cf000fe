/- slices.EqualFunc over two rows of bindings; env.Same. Conditions: as the theorems say. -/
import Derived.Test.YtkdfbfhajojdeaaEnvL
namespace Go.Proofs.Ytkdfbfhajojdeaa.Env
open Go Go.RowKit Go.Proofs.YtkdfbfhajojdeaaW.PrintWords Go.Proofs.YtkdfbfhajojdeaaW.PrintLast Go.Proofs.YtkdfbfhajojdeaaW.PrintMore Go.Proofs.Ytkdfbfhajojdeaa.POP
set_option linter.unusedVariables false
set_option linter.unusedSimpArgs false
theorem Al.get {w : World} {c : Ch} {l : List S26} (h : Al w c l) : ∀ {i : Nat} {g : Nat} {e : Nd}, c[i]? = some (g, e) → ∃ x, l[i]? = some x ∧ e.k = K26 x ∧ e.dc = x.f2 ∧ EnvAt w e.pa x.f4 ∧ EnvAt w e.pr x.f5 := by
  induction h with
  | nil => intro i g e h; cases h
  | cons a b e1 e2 hr ih =>
    intro i g e h
    cases i with
    | zero =>
      injection h with h
      injection h with h1 h2
      subst h1
      subst h2
      exact ⟨_, rfl, a, b, e1, e2⟩
    | succ i => exact ih h
theorem rowS_cons {s : List S26 → List S26 → Bool} {xs ys : List S26} {i : Nat} {x y : S26} (hx : xs[i]? = some x) (hy : ys[i]? = some y) : rowS s (xs.drop i) (ys.drop i) = (nodeS s x y && rowS s (xs.drop (i + 1)) (ys.drop (i + 1))) := by
  have ix := (List.getElem?_eq_some_iff.mp hx).1
  have iy := (List.getElem?_eq_some_iff.mp hy).1
  rw [List.getElem?_eq_getElem ix] at hx
  rw [List.getElem?_eq_getElem iy] at hy
  rw [List.drop_eq_getElem_cons ix, List.drop_eq_getElem_cons iy, Option.some.inj hx, Option.some.inj hy, rowS]
theorem rowS_len {s : List S26 → List S26 → Bool} : ∀ {xs ys : List S26}, xs.length ≠ ys.length → rowS s xs ys = false
  | [], [], h => absurd rfl h
  | [], _ :: _, _ => rfl
  | _ :: _, [], _ => rfl
  | a :: x, b :: y, h => by
    rw [rowS, rowS_len (xs := x) (ys := y) (by rw [List.length_cons, List.length_cons] at h; omega), Bool.and_false]
set_option maxHeartbeats 8000000 in
set_option maxRecDepth 100000 in
theorem eqf_ (n : Nat) (s : List S26 → List S26 → Bool) (ih : SameAt n s) (vs us : Ch) (xs ys : List S26) (A1 A2 : Option Addr) (c1 c2 : Nat) (w0 w : World) (b1 b2 : Nat) (hB : Below w0.heap.size w0 w)
    (hv : Kd.R kp 33 w b1 (fun _ => True) (.slice A1 vs.length c1) (vs.map (·.1))) (hu : Kd.R kp 33 w b2 (fun _ => True) (.slice A2 us.length c2) (us.map (·.1)))
    (av : Al w vs xs) (au : Al w us ys) (mv : ∀ x ∈ vs, ∃ u, w.heap[x.1]? = some (.cells (ndCells u x.2) 54 (0, 0))) (mu : ∀ x ∈ us, ∃ u, w.heap[x.1]? = some (.cells (ndCells u x.2) 54 (0, 0)))
    (gx : ∀ x ∈ xs, GoodT x) (gy : ∀ x ∈ ys, GoodT x) (hz : ∀ x ∈ xs, SizeOf.sizeOf x ≤ n) (hn : vs.length ≤ 1599289640400) :
    Calls Try.prog 20 #[.slice A1 vs.length c1, .slice A2 us.length c2, .func (.func 22) #[] #[]] w fun e w' => e = .returned (.bool (rowS s xs ys)) ∧ Below w0.heap.size w0 w' := by
  have IH := Aside0.mk ih
  have HB0 := Aside0.mk hB
  have HV := Aside0.mk hv
  have HU := Aside0.mk hu
  have AV := Aside0.mk av
  have AU := Aside0.mk au
  have MV := Aside0.mk mv
  have MU := Aside0.mk mu
  have GX := Aside0.mk gx
  have GY := Aside0.mk gy
  have HZ := Aside0.mk hz
  have HN := Aside0.mk hn
  have HLX := Aside0.mk av.len
  have HLY := Aside0.mk au.len
  clear ih hB hv hu av au mv mu gx gy hz hn
  by_cases hlen : vs.length = us.length
  case neg =>
    have c0 : (((vs.length : Int)) != ((us.length : Int))) = true := by
      rw [bne_iff_ne]
      omega
    have hR : rowS s xs ys = false := rowS_len (by rw [← HLX.out, ← HLY.out]; exact hlen)
    rw [hR]
    go_enter Try.func20, Try.ntmps20
    go_wp2
    go_ret
    exact ⟨rfl, HB0.out⟩
  have c0 : (((vs.length : Int)) != ((us.length : Int))) = false := by
    rw [hlen, bne_self_eq_false]
  have HLEN := Aside0.mk hlen
  clear hlen
  have HT : Aside0 (rowS s xs ys = rowS s (xs.drop 0) (ys.drop 0)) := ⟨rfl⟩
  have HM := Aside0.mk (Below.refl w.heap.size w)
  go_enter Try.func20, Try.ntmps20
  go_wp2
  go_loopg [17] (vs.length + 1) (fun kq v17 w' => ∃ (i : Nat) (a : Int), v17 = .int .i64 a ∧ Aside0 (a = (i : Int)) ∧ Aside0 (kq + i = vs.length + 1 ∧ i ≤ vs.length) ∧ Aside0 (rowS s xs ys = rowS s (xs.drop i) (ys.drop i)) ∧ Aside0 (Below w.heap.size w w'))
  case atStart => exact ⟨0, 0, rfl, ⟨rfl⟩, ⟨⟨by omega, by omega⟩⟩, HT, ⟨(by repeat (first | (with_reducible first | exact HM.out | apply below_alloc | apply pw_below_drewN | apply below_drew1) | exact HM.out))⟩⟩
  case round =>
    clear HM HT
    obtain ⟨i, a, rfl, HE, HK, HT, HM⟩ := hrel
    cases gk with
    | zero => have := HK.out; omega
    | succ k1 =>
      by_cases c : a < (vs.length : Int)
      · have c0b : decide (a < (vs.length : Int)) = true := decide_eq_true c
        have hi : i < vs.length := by have := HE.out; omega
        have hi2 : i < us.length := by have := HLEN.out; omega
        have HV0 : Kd.R kp 33 wr b1 (fun _ => True) (.slice A1 (vs.map (·.1)).length c1) (vs.map (·.1)) := by rw [List.length_map]; exact Kd.R_below HV.out HM.out
        have HU0 : Kd.R kp 33 wr b2 (fun _ => True) (.slice A2 (us.map (·.1)).length c2) (us.map (·.1)) := by rw [List.length_map]; exact Kd.R_below HU.out HM.out
        obtain ⟨g1, cap1, eg1, _, _, _⟩ := Kd.R_form HV0 (by rw [List.length_map]; omega)
        obtain ⟨g2, cap2, eg2, _, _, _⟩ := Kd.R_form HU0 (by rw [List.length_map]; omega)
        injection eg1 with ea1 _ ec1
        injection eg2 with ea2 _ ec2
        subst ea1
        subst ec1
        subst ea2
        subst ec2
        have p1 : (0 : Int) ≤ a := by have := HE.out; omega
        have q1 : a < (vs.length : Int) := c
        have q2 : a < (us.length : Int) := by have := HLEN.out; omega
        rw [List.length_map] at HV0 HU0
        obtain ⟨ce1, _, hM1, hc1, _⟩ := Kd.R_elem HV0 0 a p1 q1
        obtain ⟨ce2, _, hM2, hc2, _⟩ := Kd.R_elem HU0 0 a p1 q2
        obtain rfl : ce1 = [.pointer (some ⟨(vs.map (·.1)).getD a.toNat 0, 0, none⟩)] := hM1
        obtain rfl : ce2 = [.pointer (some ⟨(us.map (·.1)).getD a.toNat 0, 0, none⟩)] := hM2
        have hx1 := hc1 0 _ rfl
        have hx2 := hc2 0 _ rfl
        obtain ⟨x1, hv1⟩ : ∃ x, vs[i]? = some x := ⟨vs[i], List.getElem?_eq_getElem hi⟩
        obtain ⟨x2, hv2⟩ : ∃ x, us[i]? = some x := ⟨us[i], List.getElem?_eq_getElem hi2⟩
        obtain ⟨k1g, e1⟩ := x1
        obtain ⟨k2g, e2⟩ := x2
        have hgd1 : (vs.map (·.1)).getD a.toNat 0 = k1g := by rw [HE.out, Int.toNat_natCast, List.getD_eq_getElem?_getD, List.getElem?_map, hv1]; rfl
        have hgd2 : (us.map (·.1)).getD a.toNat 0 = k2g := by rw [HE.out, Int.toNat_natCast, List.getD_eq_getElem?_getD, List.getElem?_map, hv2]; rfl
        rw [hgd1, show kp.sz = 1 from rfl, Nat.mul_one, Nat.add_zero] at hx1
        rw [hgd2, show kp.sz = 1 from rfl, Nat.mul_one, Nat.add_zero] at hx2
        obtain ⟨x, hxx, kx, dx, e14, e15⟩ := AV.out.get hv1
        obtain ⟨y, hyy, ky, dy, e24, e25⟩ := AU.out.get hv2
        obtain ⟨u1, hcu1⟩ := MV.out _ (List.mem_of_getElem? hv1)
        obtain ⟨u2, hcu2⟩ := MU.out _ (List.mem_of_getElem? hv2)
        have hmx := List.mem_of_getElem? hxx
        have hmy := List.mem_of_getElem? hyy
        have NODE : Aside0 (∀ w2, Below w.heap.size w w2 → Calls Try.prog 22 #[.pointer (some ⟨k1g, 0, none⟩), .pointer (some ⟨k2g, 0, none⟩)] w2 fun e w' => e = .returned (.bool (nodeS s x y)) ∧ Below w2.heap.size w2 w') :=
          ⟨fun w2 hb => node_ n s IH.out x y k1g k2g u1 u2 e1 e2 w2 kx dx ky dy (Nat.lt_of_lt_of_le (sz4 x) (HZ.out x hmx)) (Nat.lt_of_lt_of_le (sz5 x) (HZ.out x hmx)) (GX.out x hmx) (GY.out y hmy) (blk_below hcu1 hb) (blk_below hcu2 hb) (e14.under hb) (e15.under hb) (e24.under hb) (e25.under hb)⟩
        have HR := Aside0.mk (rowS_cons (s := s) hxx hyy)
        have ew : wrap64 (a + 1) = a + 1 := wid (by have := HE.out; omega) (by have := HE.out; have := HN.out; omega)
        replace p1 := eq_true p1
        replace q1 := eq_true q1
        replace q2 := eq_true q2
        clear hc1 hc2 HV0 HU0 hgd1 hgd2 hxx hyy kx dx ky dy e14 e15 e24 e25 hcu1 hcu2 hmx hmy hv1 hv2 c
        cases hs : nodeS s x y with
        | true =>
          have HT2 : Aside0 (rowS s xs ys = rowS s (xs.drop (i + 1)) (ys.drop (i + 1))) := ⟨by rw [HT.out, HR.out, hs, Bool.true_and]⟩
          go_wp2_with (first | (go_at_call 22; refine (NODE.out _ (by repeat (first | (with_reducible first | exact HM.out | apply below_alloc | apply pw_below_drewN | apply below_drew1) | exact HM.out))).mono ?_; rintro e w5 ⟨rfl, hb⟩; rw [hs]; have HM5 := Aside0.mk (below_step (by repeat (first | (with_reducible first | exact HM.out | apply below_alloc | apply pw_below_drewN | apply below_drew1) | exact HM.out)) hb); clear hb))
          go_roundg k1
          case measure => omega
          case rel => exact ⟨i + 1, a + 1, by rw [ew], ⟨by rw [HE.out]; rfl⟩, ⟨by have := HK.out; omega⟩, HT2, HM5⟩
        | false =>
          have HT2 : rowS s xs ys = false := by rw [HT.out, HR.out, hs, Bool.false_and]
          go_wp2_with (first | (go_at_call 22; refine (NODE.out _ (by repeat (first | (with_reducible first | exact HM.out | apply below_alloc | apply pw_below_drewN | apply below_drew1) | exact HM.out))).mono ?_; rintro e w5 ⟨rfl, hb⟩; rw [hs]; have HM5 := Aside0.mk (below_step (by repeat (first | (with_reducible first | exact HM.out | apply below_alloc | apply pw_below_drewN | apply below_drew1) | exact HM.out)) hb); clear hb))
          go_ret
          exact ⟨by first | rfl | (rw [HT2]; rfl), below_step HB0.out HM5.out⟩
      · have c0b : decide (a < (vs.length : Int)) = false := decide_eq_false c
        have ei : i = vs.length := by have := HE.out; have := HK.out; omega
        have HT2 : rowS s xs ys = true := by
          rw [HT.out, ei, List.drop_eq_nil_of_le (by have := HLX.out; omega), List.drop_eq_nil_of_le (by have := HLX.out; have := HLY.out; have := HLEN.out; omega)]
          rfl
        go_wp2
        go_ret
        exact ⟨by first | rfl | (rw [HT2]; rfl), below_step HB0.out HM.out⟩
theorem selS_mem : ∀ {d l : List S26} {x : S26}, x ∈ selS d l → x ∈ l
  | _, [], _, h => h
  | d, y :: r, x, h => by
    rw [selS] at h
    by_cases c : (!(d.any (fun z => keyEq (K26 z) (K26 y)))) = true
    · rw [if_pos c] at h
      rcases List.mem_cons.mp h with rfl | h
      · exact List.mem_cons_self
      · exact List.mem_cons_of_mem _ (selS_mem h)
    · rw [if_neg c] at h
      exact List.mem_cons_of_mem _ (selS_mem h)
theorem visS_mem {l : List S26} {x : S26} (h : x ∈ visS l) : x ∈ l := by
  unfold visS at h
  rw [List.mem_reverse] at h
  simpa using selS_mem h
theorem Al.wf {w : World} {c : Ch} {l : List S26} (h : Al w c l) (g : ∀ x ∈ l, GoodT x) : ∀ x ∈ c, wfK x.2.k := by
  induction h with
  | nil => intro x hx; cases hx
  | cons a b e1 e2 hr ih =>
    intro x hx
    rcases List.mem_cons.mp hx with rfl | hx
    · show wfK _
      rw [a]
      exact (g _ List.mem_cons_self).k
    · exact ih (fun y hy => g y (List.mem_cons_of_mem _ hy)) x hx
set_option maxHeartbeats 8000000 in
set_option maxRecDepth 100000 in
theorem same_ : ∀ n, SameAt n (sameN n)
  | 0 => fun l m p q w h => absurd h (Nat.not_lt_zero _)
  | n + 1 => fun l m p q w hz gl gm el em => by
    have IH := Aside0.mk (same_ n)
    obtain ⟨cl, rfl, al, rl⟩ := el.chain
    obtain ⟨cm, rfl, am, rm⟩ := em.chain
    have HS : Aside0 (sameN (n + 1) l m = rowS (sameN n) (visS l) (visS m)) := ⟨rfl⟩
    have L1 := Aside0.mk (show cl.length ≤ 1599289640400 by have h_ := rl.len; rw [List.length_reverse] at h_; have := gl.1; omega)
    have L2 := Aside0.mk (show cm.length ≤ 1599289640400 by have h_ := rm.len; rw [List.length_reverse] at h_; have := gm.1; omega)
    have W1 := Aside0.mk (rl.wf (fun x hx => gl.2 x (List.mem_reverse.mp hx)))
    have W2 := Aside0.mk (rm.wf (fun x hx => gm.2 x (List.mem_reverse.mp hx)))
    have AL := Aside0.mk al
    have AM := Aside0.mk am
    have RL := Aside0.mk (show Al w (visC cl).reverse (visS l) from (rl.sel .nil).rev)
    have RM := Aside0.mk (show Al w (visC cm).reverse (visS m) from (rm.sel .nil).rev)
    have M1 : Aside0 (∀ x ∈ (visC cl).reverse, x ∈ cl) := ⟨fun x hx => selC_mem (List.mem_reverse.mp hx)⟩
    have M2 : Aside0 (∀ x ∈ (visC cm).reverse, x ∈ cm) := ⟨fun x hx => selC_mem (List.mem_reverse.mp hx)⟩
    have GL : Aside0 (∀ x ∈ visS l, GoodT x) := ⟨fun x hx => gl.2 x (visS_mem hx)⟩
    have GM : Aside0 (∀ x ∈ visS m, GoodT x) := ⟨fun x hx => gm.2 x (visS_mem hx)⟩
    have HZ : Aside0 (∀ x ∈ visS l, SizeOf.sizeOf x ≤ n) := ⟨fun x hx => by have h_ := List.sizeOf_lt_of_mem (visS_mem hx); omega⟩
    have LV : Aside0 ((visC cl).reverse.length ≤ 1599289640400) := ⟨by rw [List.length_reverse]; have h1_ := selC_len (dec := decV) [] cl; have h2_ := L1.out; exact Nat.le_trans h1_ h2_⟩
    have EV1 : Aside0 (((visC cl).map (·.1)).reverse = (visC cl).reverse.map (·.1)) := ⟨List.map_reverse.symm⟩
    have EV2 : Aside0 (((visC cm).map (·.1)).reverse = (visC cm).reverse.map (·.1)) := ⟨List.map_reverse.symm⟩
    have HM := Aside0.mk (Below.refl w.heap.size w)
    clear rl rm al am gl gm el em hz
    rw [HS.out]
    generalize hvs : (visC cl).reverse = vs at RL M1 LV EV1
    generalize hus : (visC cm).reverse = us at RM M2 EV2
    clear hvs hus
    go_enter Try.func10, Try.ntmps10
    go_wp2_with (first | ((with_reducible refine gate_dst (N := 6) rfl ?_); (with_reducible refine gate_callee (f := 21) rfl ?_); refine goesL_ (some 6) rfl rfl Try.func21 (by kernel_rfl) rfl #[.pointer (ptr cl)] rfl (by (try simp only [List.map_toArray, List.map_cons, List.map_nil]); first | done | rfl) ?_; refine (visible_ cl _ (At.below AL.out (by repeat (first | (with_reducible first | exact HM.out | apply below_alloc | apply pw_below_drewN | apply below_drew1) | exact HM.out))) W1.out L1.out).mono ?_; rintro e w1 ⟨v1, rfl, hr, hb⟩; refine ⟨_, rfl, ?_⟩; rw [EV1.out] at hr; have HV1 := Aside0.mk hr; have HM1 := Aside0.mk (below_step (by repeat (first | (with_reducible first | exact HM.out | apply below_alloc | apply pw_below_drewN | apply below_drew1) | exact HM.out)) hb); clear hr hb; obtain ⟨Av, cv, ev⟩ := Kd.R_slice HV1.out; subst ev; rw [List.length_map] at HV1 ⊢) | ((with_reducible refine gate_dst (N := 8) rfl ?_); (with_reducible refine gate_callee (f := 21) rfl ?_); refine goesL_ (some 8) rfl rfl Try.func21 (by kernel_rfl) rfl #[.pointer (ptr cm)] rfl (by (try simp only [List.map_toArray, List.map_cons, List.map_nil]); first | done | rfl) ?_; refine (visible_ cm _ (At.below AM.out HM1.out) W2.out L2.out).mono ?_; rintro e w2 ⟨v2, rfl, hr, hb⟩; refine ⟨_, rfl, ?_⟩; rw [EV2.out] at hr; have HU2 := Aside0.mk hr; have HV2 := Aside0.mk (Kd.R_below HV1.out hb); have HM2 := Aside0.mk (below_step HM1.out hb); clear hr hb HV1; obtain ⟨Au, cu, eu⟩ := Kd.R_slice HU2.out; subst eu; rw [List.length_map] at HU2 ⊢) | ((with_reducible refine gate_callee (f := 20) rfl ?_); refine goesL_ (some 9) rfl rfl Try.func20 (by kernel_rfl) rfl #[.slice Av vs.length cv, .slice Au us.length cu, .func (.func 22) #[] #[]] rfl (by (try simp only [List.map_toArray, List.map_cons, List.map_nil]); first | done | rfl) ?_; refine (eqf_ n (sameN n) IH.out vs us (visS l) (visS m) Av Au cv cu w _ _ _ HM2.out HV2.out HU2.out (RL.out.under HM2.out) (RM.out.under HM2.out) (fun x hx => by obtain ⟨u, hc⟩ := At.mem AL.out (M1.out x hx); exact ⟨u, blk_below hc HM2.out⟩) (fun x hx => by obtain ⟨u, hc⟩ := At.mem AM.out (M2.out x hx); exact ⟨u, blk_below hc HM2.out⟩) GL.out GM.out HZ.out LV.out).mono ?_; rintro e w3 ⟨rfl, hb⟩; refine ⟨_, rfl, ?_⟩; have HM3 := Aside0.mk hb; clear hb))
    go_ret
    exact ⟨rfl, HM3.out⟩
end Go.Proofs.Ytkdfbfhajojdeaa.Env
