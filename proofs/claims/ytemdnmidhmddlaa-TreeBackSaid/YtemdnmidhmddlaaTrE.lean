/- Walk, walked. Conditions: as the theorems say. -/
import Derived.Test.YtemdnmidhmddlaaTrD
import Derived.Test.YtemdnmidhmddlaaPAllx9
import Derived.WalkMore
import Derived.ScopeJumps
namespace Go.Proofs.Ytemdnmidhmddlaa.Tree
open Go Go.RowKit Go.Proofs.YtemdnmidhmddlaaW.PrintWords Go.Proofs.YtemdnmidhmddlaaW.PrintLast Go.Proofs.YtemdnmidhmddlaaW.PrintMore Go.Proofs.Ytemdnmidhmddlaa.PAll
set_option linter.unusedVariables false
set_option linter.unusedSimpArgs false
def RevI {α : Type} (xs : List α) (i : Nat) (ys : List α) : Prop :=
 ys.length = xs.length ∧ ∀ q, ys[q]? = if q < i ∨ (xs.length - i ≤ q ∧ q < xs.length) then xs[xs.length - 1 - q]? else xs[q]?
theorem rev0 {α : Type} (xs : List α) : RevI xs 0 xs := ⟨rfl, fun q => by rw [if_neg (by omega)]⟩
theorem rev_end {α : Type} {xs ys : List α} {i : Nat} (h : RevI xs i ys) (hi : ¬ ((i : Int) < (xs.length : Int) - 1 - (i : Int))) (h2 : 2 * i ≤ xs.length) : ys = xs.reverse := by
 apply List.ext_getElem?
 intro q
 rw [h.2 q]
 by_cases hq : q < xs.length
 ·rw [List.getElem?_reverse hq]
  by_cases c : q < i ∨ (xs.length - i ≤ q ∧ q < xs.length)
  ·rw [if_pos c]
  ·rw [if_neg c, show xs.length - 1 - q = q by omega]
 ·rw [if_neg (by omega), List.getElem?_eq_none (by omega), List.getElem?_eq_none (by rw [List.length_reverse]; omega)]
theorem rev_step {α : Type} {xs ys : List α} {i : Nat} (z : α) (h : RevI xs i ys) (hi : (i : Int) < (xs.length : Int) - 1 - (i : Int)) :
  RevI xs (i + 1) ((ys.set i (ys.getD (xs.length - 1 - i) z)).set (xs.length - 1 - i) (ys.getD i z)) := by
 obtain ⟨hl, h⟩ := h
 refine ⟨by rw [List.length_set, List.length_set, hl], fun q => ?_⟩
 have e1 : ys.getD (xs.length - 1 - i) z = xs.getD (xs.length - 1 - i) z := by
  rw [List.getD_eq_getElem?_getD, List.getD_eq_getElem?_getD, h, if_neg (by omega)]
 have e2 : ys.getD i z = xs.getD i z := by
  rw [List.getD_eq_getElem?_getD, List.getD_eq_getElem?_getD, h, if_neg (by omega)]
 rw [e1, e2, List.getElem?_set, List.length_set, hl]
 by_cases c1 : xs.length - 1 - i = q
 ·subst c1
  rw [if_pos rfl, if_pos (by omega), if_pos (by omega), show xs.length - 1 - (xs.length - 1 - i) = i by omega, List.getD_eq_getElem?_getD, List.getElem?_eq_getElem (by omega)]
  rfl
 ·rw [if_neg c1, List.getElem?_set, hl]
  by_cases c2 : i = q
  ·subst c2
   rw [if_pos rfl, if_pos (by omega), if_pos (by omega), List.getD_eq_getElem?_getD, List.getElem?_eq_getElem (by omega)]
   rfl
  ·rw [if_neg c2, h]
   by_cases c3 : q < i ∨ (xs.length - i ≤ q ∧ q < xs.length)
   ·rw [if_pos c3, if_pos (by omega)]
   ·rw [if_neg c3, if_neg (by omega)]
theorem rev_ev (xs : List Int) (hn : xs.length ≤ 1000000) : Ev (fun k => slices_Reverse_int_int.f k xs) xs.reverse := by
 have loop : ∀ (d i : Nat) (ys : List Int), xs.length + 1 = 2 * i + d → 2 * i ≤ xs.length → RevI xs i ys → Ev (fun k => slices_Reverse_int_int.l0 k ys (i : Int) ((xs.length : Int) - 1 - (i : Int))) xs.reverse := by
  intro d
  induction d using Nat.strongRecOn with
  | _ d ih =>
   intro i ys hd hi h
   by_cases c : (i : Int) < (xs.length : Int) - 1 - (i : Int)
   ·have hl := h.1
    have e1 : ((i : Int)).toNat = i := by omega
    have e2 : ((xs.length : Int) - 1 - (i : Int)).toNat = xs.length - 1 - i := by omega
    have w1 : wrap64 ((i : Int) + 1) = ((i + 1 : Nat) : Int) := by rw [wid (by omega) (by omega)]; rfl
    have w2 : wrap64 ((xs.length : Int) - 1 - (i : Int) - 1) = (xs.length : Int) - 1 - ((i + 1 : Nat) : Int) := by rw [wid (by omega) (by omega)]; omega
    have s := rev_step (0 : Int) h c
    have key := ih (d - 2) (by omega) (i + 1) _ (by omega) (by omega) s
    refine Ev.step (fun k => ?_) key
    rw [slices_Reverse_int_int.l0, if_pos c, if_pos (by omega), if_pos (by omega), if_pos (by omega), if_pos (by omega), w1, w2]
    unfold rd
    rw [e1, e2]
   ·have hr := rev_end h c hi
    subst hr
    exact Ev.step (f := fun _ => some xs.reverse) (fun k => by rw [slices_Reverse_int_int.l0, if_neg c]) (Ev.now _)
 have h := loop (xs.length + 1) 0 xs (by omega) (by omega) (rev0 xs)
 refine Ev.congr (fun k => ?_) h
 show slices_Reverse_int_int.l0 k xs 0 (wrap64 ((xs.length : Int) - 1)) = _
 rw [wid (by omega) (by omega)]
 simp
theorem rev_ (P0 : Nat → Prop) (v : Value) (l : List Int) (w0 w : World) (hB : Below w0.heap.size w0 w) (h : Kd.R (Kd.int .i64) 3 w w0.heap.size P0 v l) (hl : l.length ≤ 1000000) :
  Calls Try.prog 36 #[v] w fun e w' => e = .returned (.tuple #[]) ∧ Kd.R (Kd.int .i64) 3 w' w0.heap.size (fun k => P0 k ∨ w.heap.size ≤ k) v l.reverse ∧ Below w0.heap.size w0 w' ∧ Kept w w' P0 := by
 obtain ⟨k, hk⟩ := (rev_ev l hl).rounds
 exact slices_Reverse_int_int.calls k P0 v l l.reverse w0 w hB h hk
inductive WalkK (ks : List S39) : List Int → List Int → Prop
 | nil : WalkK ks [] []
 | cons {o : List Int} {k : Int} {kids r : List Int} : hasB ks k = true → ChainK ks (rd_T39 ks k).f5 kids → kids.length ≤ 1000000 → o.length ≤ 1000000 → WalkK ks (o ++ kids.reverse) r → WalkK ks (o ++ [k]) (k :: r)
theorem skip_seq {P : Program} {X : Code} {Q : Exit → Act → World → Prop} {a : Act} {w : World} (h : X.wp P Q a w) : (Code.skip.seq X).wp P Q a w := wp_seq (wp_skip h)
theorem sep_ {w w1 : World} {base : Nat} {v v1 u : Value} {xs : List Int} (h : Kd.R (Kd.int .i64) 3 w base (fun k => some k ≠ v.ownBlock) u xs) (hg : w.grownBy w1 v.ownBlock) (hat : v1.ownBlock = v.ownBlock ∨ ∃ b, v1.ownBlock = some b ∧ w.heap.size ≤ b) : Kd.R (Kd.int .i64) 3 w1 base (fun k => some k ≠ v1.ownBlock) u xs :=
 Kd.R_mono (Kd.R_grown (Kd.R_bound h) hg (fun k hk => hk.1)) (fun k hk => by
  rcases hat with e | ⟨b, e, hb⟩
  ·rw [e]; exact hk.1
  ·rw [e]
   intro q
   have q2 := Option.some.inj q
   have := hk.2.2.1
   omega)
def slen : Value → Nat
 | .slice _ n _ => n
 | _ => 0
set_option maxHeartbeats 8000000 in
set_option maxRecDepth 100000 in
theorem walk_ (p : Option Addr) (ks : List S39) (ns : List (List Int)) (n : Int) (l : List Int) (w : World) (h : TreeP w p ks ns) (hl : l.length ≤ 1000000) (h1 : hasB ks n = true → WalkK ks [n] l) (h0 : hasB ks n = false → l = []) :
  Calls Try.prog 18 #[.pointer p, .int .i64 n] w fun e w' => ∃ v, e = .returned v ∧ Kd.R (Kd.int .i64) 3 w' w.heap.size (fun _ => True) v l ∧ Below w.heap.size w w' := by
 have HT := Aside0.mk h
 have HL := Aside0.mk hl
 have HM := Aside0.mk (Below.refl w.heap.size w)
 obtain ⟨bh, hbh⟩ : ∃ b, hasB ks n = b := ⟨_, rfl⟩
 have HBH := Aside0.mk hbh
 clear h hl hbh
 have H1 := Aside0.mk h1
 have H0 := Aside0.mk h0
 clear h1 h0
 cases bh with
 | false =>
  obtain rfl := H0.out HBH.out
  clear H0 H1
  go_enter Try.func18, Try.ntmps18
  go_wp2
  go_step3
  go_wp2_with (first | (go_at_call 35; refine (has_ _ ks ns n _ (HT.out.below (by repeat (first | (with_reducible first | exact HM.out | apply below_alloc | apply pw_below_drewN | apply below_drew1) | exact HM.out)))).mono ?_; rintro e w2 ⟨rfl, hb⟩; rw [HBH.out]; have n_ := Aside0.mk (below_step (by repeat (first | (with_reducible first | exact HM.out | apply below_alloc | apply pw_below_drewN | apply below_drew1) | exact HM.out)) hb); clear HM; have HM := n_; clear n_ hb))
  try rw [Exit.noGoto_ret]
  go_ret
  exact ⟨_, rfl, Kd.R_nil _ _ _ _ _, HM.out⟩
 | true =>
  have WK := Aside0.mk (H1.out HBH.out)
  clear H0 H1
  go_enter Try.func18, Try.ntmps18
  go_wp2
  obtain ⟨J, hJ⟩ : ∃ J : Act → World → Prop, J = (fun a' w' => ∃ (dn rs o : List Int) (v5 v6 u7 u8 u13 u14 u15 u16 u17 u18 u19 u20 u21 u22 u23 u24 u25 u26 u27 u28 u29 u30 u31 u32 u33 u34 u35 u36 u37 u38 u39 u40 u41 : Value), a' = { tmps := #[Value.pointer p, .int .i64 n, undef, undef, .slice none 0 0, v5, v6, u7, u8, .pointer p, .int .i64 n, .bool true, .bool false, u13, u14, u15, u16, u17, u18, u19, u20, u21, u22, u23, u24, u25, u26, u27, u28, u29, u30, u31, u32, u33, u34, u35, u36, u37, u38, u39, u40, u41], defers := [] } ∧ Aside0 (dn ++ rs = l) ∧ Aside0 (WalkK ks o rs) ∧ Aside0 (Kd.R (Kd.int .i64) 3 w' w.heap.size (fun _ => True) v5 dn) ∧ Aside0 (Kd.R (Kd.int .i64) 3 w' w.heap.size (fun k => some k ≠ v5.ownBlock) v6 o) ∧ Aside0 (Below w.heap.size w w')) := ⟨_, rfl⟩
  have HJ := Aside0.mk hJ
  clear hJ
  refine (fun (key : ∀ a w, J a w → Code.wp Try.prog _ (Exit.jump 0 (fun a' w' => J a' w' ∧ (1000001 - slen (a'.tmps.getD 5 undef)) < (1000001 - slen (a.tmps.getD 5 undef))) _) a w) => wp_scope_jumps 0 J (fun a' _ => 1000001 - slen (a'.tmps.getD 5 undef)) rfl ?_ (fun a w h => skip_seq (key a w h))) ?_
  ·go_wp2_with (first | (go_at_call 35; refine (has_ _ ks ns n _ (HT.out.below (by repeat (first | (with_reducible first | exact HM.out | apply below_alloc | apply pw_below_drewN | apply below_drew1) | exact HM.out)))).mono ?_; rintro e w2 ⟨rfl, hb⟩; rw [HBH.out]; have n_ := Aside0.mk (below_step (by repeat (first | (with_reducible first | exact HM.out | apply below_alloc | apply pw_below_drewN | apply below_drew1) | exact HM.out)) hb); clear HM; have HM := n_; clear n_ hb) | ((with_reducible refine gate_dst (N := 14) rfl ?_); refine Kd.R_lit (Kd.int .i64) _ 3 ?hg (N := 14) ?hd (xs := [n]) (inner := [.int .i64 n]) (ok := fun _ => True) (okp := fun _ => True) ?hr ?hp (fun _ hk => hk) trivial (Below.refl _ _) (Nat.le_refl _) (by simp) ?_; (case hd => rfl); (case hg => rfl); (case hr => first | (go_simp; done) | (go_simp; rfl)); (case hp => exact (Reps.one (show (Kd.int .i64).M _ _ _ n [.int .i64 n] from rfl) (Reps.none _ _))); intro v1 w4 ho hb hg_ hnew_; have HR := Aside0.mk (Kd.R_lower ho (below_size (by repeat (first | (with_reducible first | exact HM.out | apply below_alloc | apply pw_below_drewN | apply below_drew1) | exact HM.out)))); have n_ := Aside0.mk (below_step (by repeat (first | (with_reducible first | exact HM.out | apply below_alloc | apply pw_below_drewN | apply below_drew1) | exact HM.out)) hb); clear HM; have HM := n_; clear n_ hb; clear ho hg_ hnew_))
   go_step3
   refine (show _ from (by assumption : ∀ (a : Act) (w : World), _ → _) _ _ ?_)
   refine wp_mono (key _ _ ?_) (fun e a w h => by cases e <;> first | exact h | exact ⟨h.1, h.2.1⟩)
   rw [HJ.out]
   exact ⟨[], l, [n], .slice none 0 0, v1, _, _, _, _, _, _, _, _, _, _, _, _, _, _, _, _, _, _, _, _, _, _, _, _, _, _, _, _, _, _, _, rfl, ⟨rfl⟩, WK, ⟨Kd.R_nil _ _ _ _ _⟩, ⟨Kd.R_mono HR.out (fun k _ => by simp [Value.ownBlock])⟩, HM⟩
  ·intro a' w' hj
   rw [HJ.out] at hj
   obtain ⟨dn, rs, o, v5, v6, u7, u8, u13, u14, u15, u16, u17, u18, u19, u20, u21, u22, u23, u24, u25, u26, u27, u28, u29, u30, u31, u32, u33, u34, u35, u36, u37, u38, u39, u40, u41, rfl, HD, WK, H5, H6, HB⟩ := hj
   clear HM
   have hc := WK.out
   cases hc with
   | nil =>
    obtain ⟨A6, c6, e6⟩ := Kd.R_slice H6.out
    subst e6
    obtain ⟨A5, c5, e5⟩ := Kd.R_slice H5.out
    subst e5
    rw [List.length_nil] at H6 ⊢
    go_wp2
    simp only [Exit.jump]
    go_ret
    exact ⟨_, rfl, by have h_ := HD.out; rw [List.append_nil] at h_; exact h_ ▸ H5.out, HB.out⟩
   | cons hh hr hkl hol hw2 =>
    rename_i o2 k kids r
    have HH := Aside0.mk hh
    have CK := Aside0.mk hr
    have KL := Aside0.mk hkl
    have W2 := Aside0.mk hw2
    have LO := Aside0.mk hol
    obtain ⟨g6, c6, e6, _, _, _⟩ := Kd.R_form H6.out (by simp)
    subst e6
    obtain ⟨A5, c5, e5⟩ := Kd.R_slice H5.out
    subst e5
    have MX : Aside0 ((o2 ++ [k]).length ≤ 9223372036854775807) := ⟨by obtain ⟨_, inner, hq, _⟩ := Kd.Q_of_R H6.out; exact q_max hq⟩
    obtain ⟨m, hm⟩ : ∃ m, (o2 ++ [k]).length = m := ⟨_, rfl⟩
    have M6 : Aside0 (m = o2.length + 1) := ⟨by rw [← hm, List.length_append]; rfl⟩
    rw [hm] at H6 MX ⊢
    clear hm hh hr hkl hol hw2 WK
    have LM := Aside0.mk (Kd.R_reads' H6.out).2.1
    have LD : Aside0 (dn.length ≤ 1000000) := ⟨by have h_ := HD.out; have h2_ := congrArg List.length h_; rw [List.length_append] at h2_; have := HL.out; omega⟩
    have ew : wrap64 ((m : Int) - 1) = (o2.length : Int) := by rw [wid (by have := M6.out; omega) (by have := M6.out; have := MX.out; omega)]; have := M6.out; omega
    have p1 : (0 : Int) ≤ (o2.length : Int) := by omega
    have q1 : (o2.length : Int) < (m : Int) := by have := M6.out; omega
    have q2 : (o2.length : Int) ≤ (c6 : Int) := by have := M6.out; have := LM.out; omega
    have pm : ((m : Int) > 0) = True := eq_true (by have := M6.out; omega)
    have pm2 : ((0 : Int) < (m : Int)) = True := eq_true (by have := M6.out; omega)
    have pm3 : (0 < m) = True := eq_true (by have := M6.out; omega)
    obtain ⟨ce, hl1, hM1, hc1, hf1⟩ := Kd.R_elem H6.out 0 (o2.length : Int) p1 q1
    obtain rfl : ce = [.int .i64 ((o2 ++ [k]).getD ((o2.length : Int)).toNat 0)] := hM1
    have x6 := hc1 0 _ rfl
    rw [Int.toNat_natCast, show (Kd.int .i64).sz = 1 from rfl, Nat.mul_one, Nat.add_zero, List.getD_eq_getElem?_getD, List.getElem?_append_right (Nat.le_refl _), Nat.sub_self] at x6
    replace x6 : w'.cell? ⟨g6, o2.length, none⟩ = some (.int .i64 k) := x6
    replace p1 := eq_true p1
    replace q1 := eq_true q1
    replace q2 := eq_true q2
    clear hl1 hc1 hf1
    have R7 : Aside0 (Kd.R (Kd.int .i64) 3 w' w.heap.size (fun k => some k ≠ (Value.slice A5 dn.length c5).ownBlock) (.slice (some ⟨g6, 0, none⟩) o2.length c6) o2) := ⟨by have h_ := Kd.R_take (m := o2.length) H6.out (by rw [List.length_append]; omega); rw [List.take_left'] at h_; exact h_; rfl⟩
    have LK : Aside0 (kids.length = kids.reverse.length) := ⟨by rw [List.length_reverse]⟩
    go_wp2_with (first | ((with_reducible refine gate_builtin (b := .append) (xs := #[.tmp 29, .tmp 31]) rfl ?_); at_builtin; refine Kd.R_append (Kd.int .i64) (w0 := w) w.heap.size rfl (.tmp 29) (.tmp 31) 22 3 (.int .i64 0) 8 rfl Try.underlying22 info3 rfl (by decide) (by omega) (.slice A5 dn.length c5) dn k [.int .i64 k] (fun _ => True) (fun _ => False) rfl (by first | (go_simp; done) | (go_simp; rfl)) ?aP (fun _ hk => hk.elim) ?aF ?aO ?aB ?aS ?aL ?_; (case aP => exact rfl); (case aF => exact (fun _ _ => trivial)); (case aO => exact H5.out); (case aB => exact HB.out); (case aS => exact HB.out.size); (case aL => have := LD.out; omega); intro v9 w9 ho9 hb9 hg9 hat9; have H9 := Aside0.mk ho9; have R9 := Aside0.mk (sep_ R7.out hg9 hat9); have n_ := Aside0.mk hb9; clear HB; have HB := n_; clear n_ ho9 hb9 hg9 hat9; obtain ⟨A9, c9, e9⟩ := Kd.R_slice H9.out; subst e9) | (go_at_call 16; refine (kids_ p ks ns k kids _ (HT.out.below (by repeat (first | (with_reducible first | exact HB.out | apply below_alloc | apply pw_below_drewN | apply below_drew1) | exact HB.out))) KL.out (fun _ => CK.out) (fun h => absurd (HH.out.symm.trans h) (by decide))).mono ?_; rintro e w10 ⟨v10, rfl, hr10, hb10⟩; have H10 := Aside0.mk hr10; have B10 := Aside0.mk hb10; clear hr10 hb10; obtain ⟨A10, c10, e10⟩ := Kd.R_slice H10.out; subst e10) | (go_at_call 36; refine (rev_ (fun _ => True) _ kids w9 _ B10.out H10.out KL.out).mono ?_; rintro e w11 ⟨rfl, hr11, hb11, _⟩; have H11 := Aside0.mk hr11; have H9b := Aside0.mk (Kd.R_below H9.out hb11); have R9b := Aside0.mk (Kd.R_below R9.out hb11); have n_ := Aside0.mk (below_step (by repeat (first | (with_reducible first | exact HB.out | apply below_alloc | apply pw_below_drewN | apply below_drew1) | exact HB.out)) hb11); clear HB; have HB := n_; clear n_ hr11 hb11 B10 H10 H9 R9) | ((with_reducible refine gate_builtin (b := .append) (xs := #[.tmp 38, .tmp 39]) rfl ?_); at_builtin; refine Kd.R_append_rows (Kd.int .i64) (w0 := w) w.heap.size rfl (.tmp 38) (.tmp 39) 22 3 (.int .i64 0) 8 rfl Try.underlying22 info3 rfl (by decide) (by omega) (.slice (some ⟨g6, 0, none⟩) o2.length c6) o2 kids.reverse _ _ _ (fun q => some q ≠ (Value.slice A9 (dn ++ [k]).length c9).ownBlock) (fun _ => False) rfl rfl ?aO ?aR (fun _ _ h => h) (fun _ h => h.elim) ?aF ?aB ?aS ?aL ?_; (case aO => exact R9b.out); (case aR => exact (by have h_ := (Kd.R_reads' H11.out).2.2; first | exact h_ | (rw [LK.out]; exact h_) | (rw [← LK.out] at h_; exact h_))); (case aF => exact Kd.fresh_ok H9b.out); (case aB => exact HB.out); (case aS => exact HB.out.size); (case aL => have h1_ := LO.out; have h2_ := KL.out; omega); intro v12 w12 ho12 hb12 hg12 hat12; have H12 := Aside0.mk ho12; have n_ := Aside0.mk hb12; have H9c := Aside0.mk (Kd.R_grown (Kd.R_tight2 rfl H9b.out) hg12 (fun k hk e => R9b.out.1 k e.symm hk.1)); clear HB; have HB := n_; clear n_ ho12 hb12 hg12 hat12))
    rw [List.length_append, List.length_singleton] at H9c H12
    go_step3
    refine ⟨rfl, ?_, ?_⟩
    ·rw [HJ.out]
     exact ⟨dn ++ [k], r, o2 ++ kids.reverse, _, v12, _, _, _, _, _, _, _, _, _, _, _, _, _, _, _, _, _, _, _, _, _, _, _, _, _, _, _, _, _, _, _, rfl, ⟨by have h_ := HD.out; rw [List.append_assoc]; exact h_⟩, W2, ⟨Kd.R_mono H9c.out (fun _ _ => trivial)⟩, H12, HB⟩
    ·have := LD.out
     show 1000001 - (dn.length + 1) < 1000001 - dn.length
     omega
end Go.Proofs.Ytemdnmidhmddlaa.Tree
