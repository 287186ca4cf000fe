/- Within, walked. Conditions: as the theorems say. -/
import Derived.Test.YtemdnmidhmddlaaTrD
namespace Go.Proofs.Ytemdnmidhmddlaa.Tree
open Go Go.RowKit Go.Proofs.YtemdnmidhmddlaaW.PrintWords Go.Proofs.YtemdnmidhmddlaaW.PrintLast Go.Proofs.YtemdnmidhmddlaaW.PrintMore Go.Proofs.Ytemdnmidhmddlaa.PAll
set_option linter.unusedVariables false
set_option linter.unusedSimpArgs false
def k58 : Kd (Int × Int) := Kd.pair (Kd.int .i64) (Kd.int .i64)
theorem k58_mkM (w : World) (base : Nat) (ok : Nat → Prop) (x : Int × Int) : k58.M w base ok x [.int .i64 x.1, .int .i64 x.2] := ⟨[.int .i64 x.1], [.int .i64 x.2], rfl, rfl, rfl⟩
theorem k58_openM {w : World} {base : Nat} {ok : Nat → Prop} {x : Int × Int} {cs : List Value} (h : k58.M w base ok x cs) : cs = [.int .i64 x.1, .int .i64 x.2] := by
 obtain ⟨_, _, rfl, rfl, rfl⟩ := h
 rfl
theorem info58 : (Try.prog.info? 58).map (fun i => (i.zero, i.size, i.bytes)) = some (some (.agg #[.int .i64 0, .int .i64 0]), 2, 16) := by kernel_rfl
theorem Reps.two {α : Type} {R : α → List Value → Prop} {p : α} {u v : Value} (hp : R p [u, v]) : Reps R 2 [p] [u, v] := ⟨rfl, fun j q h => by
 cases j with
 | zero => cases h; exact hp
 | succ j => cases h⟩
def upd (x : Int × Int) (b d : Int) : Int × Int := if x.2 > d ∨ (x.2 = d ∧ x.1 > b) then x else (b, d)
inductive WithK (ks : List S39) (tok : Int) : Nat → List (Int × Int) → Int → Int → Int → Prop
 | nil {b d : Int} : WithK ks tok 0 [] b d b
 | cons {n : Nat} {x : Int × Int} {q : List (Int × Int)} {kids : List Int} {b d r : Int} : hasB ks x.1 = true → ChainK ks (rd_T39 ks x.1).f5 kids → (∀ k ∈ kids, hasB ks k = true) → kids.length ≤ 1000000 → q.length ≤ 1000000 → (0 ≤ x.2 ∧ x.2 ≤ 1000000) →
   WithK ks tok n (q ++ (kids.filter (fun k => holdB ks k tok)).map (fun k => (k, x.2 + 1))) (upd x b d).1 (upd x b d).2 r → WithK ks tok (n + 1) (x :: q) b d r
set_option maxHeartbeats 16000000 in
set_option maxRecDepth 100000 in
theorem within_ (p : Option Addr) (ks : List S39) (ns : List (List Int)) (tok : Int) (nr : Nat) (r : Int) (w : World) (h : TreeP w p ks ns) (h1 : (0 < ks.length ∧ holdB ks 0 tok = true) → WithK ks tok nr [(0, 1)] 0 1 r) (h0 : ¬ (0 < ks.length ∧ holdB ks 0 tok = true) → r = -1) :
  Calls Try.prog 10 #[.pointer p, .int .i64 tok] w fun e w' => e = .returned (.int .i64 r) ∧ Below w.heap.size w w' := by
 have HT := Aside0.mk h
 have HM := Aside0.mk (Below.refl w.heap.size w)
 have H1 := Aside0.mk h1
 have H0 := Aside0.mk h0
 clear h h1 h0
 by_cases ck : 0 < ks.length
 case neg =>
  have e0 : ((ks.length : Int) == 0) = true := by rw [beq_iff_eq]; omega
  obtain rfl := H0.out (fun hh => ck hh.1)
  go_enter Try.func10, Try.ntmps10
  go_wp2_with (first | (go_at_call 15; refine (len_ p ks ns _ (HT.out.below (by repeat (first | (with_reducible first | exact HM.out | apply below_alloc | apply pw_below_drewN | apply below_drew1) | exact HM.out)))).mono ?_; rintro e w2 ⟨rfl, hb⟩; have n_ := Aside0.mk (below_step (by repeat (first | (with_reducible first | exact HM.out | apply below_alloc | apply pw_below_drewN | apply below_drew1) | exact HM.out)) hb); clear HM; have HM := n_; clear n_ hb))
  go_ret
  exact ⟨rfl, HM.out⟩
 have e0 : ((ks.length : Int) == 0) = false := by rw [beq_eq_false_iff_ne]; omega
 have hz : hasB ks 0 = true := decide_eq_true ⟨Int.le_refl _, by omega⟩
 obtain ⟨bh, hbh⟩ : ∃ b, holdB ks 0 tok = b := ⟨_, rfl⟩
 have HBH := Aside0.mk hbh
 have HZ := Aside0.mk hz
 clear hbh hz
 cases bh with
 | false =>
  obtain rfl := H0.out (fun hh => absurd (HBH.out.symm.trans hh.2) (by decide))
  go_enter Try.func10, Try.ntmps10
  go_wp2_with (first | (go_at_call 15; refine (len_ p ks ns _ (HT.out.below (by repeat (first | (with_reducible first | exact HM.out | apply below_alloc | apply pw_below_drewN | apply below_drew1) | exact HM.out)))).mono ?_; rintro e w2 ⟨rfl, hb⟩; have n_ := Aside0.mk (below_step (by repeat (first | (with_reducible first | exact HM.out | apply below_alloc | apply pw_below_drewN | apply below_drew1) | exact HM.out)) hb); clear HM; have HM := n_; clear n_ hb) | (go_at_call 33; refine (holds_ p ks ns 0 tok _ (HT.out.below (by repeat (first | (with_reducible first | exact HM.out | apply below_alloc | apply pw_below_drewN | apply below_drew1) | exact HM.out))) HZ.out).mono ?_; rintro e w3 ⟨rfl, hb⟩; rw [HBH.out]; have n_ := Aside0.mk (below_step (by repeat (first | (with_reducible first | exact HM.out | apply below_alloc | apply pw_below_drewN | apply below_drew1) | exact HM.out)) hb); clear HM; have HM := n_; clear n_ hb))
  go_ret
  exact ⟨rfl, HM.out⟩
 | true =>
  have WK := Aside0.mk (H1.out ⟨ck, HBH.out⟩)
  clear H0 H1
  go_enter Try.func10, Try.ntmps10
  go_wp2_with (first | (go_at_call 15; refine (len_ p ks ns _ (HT.out.below (by repeat (first | (with_reducible first | exact HM.out | apply below_alloc | apply pw_below_drewN | apply below_drew1) | exact HM.out)))).mono ?_; rintro e w2 ⟨rfl, hb⟩; have n_ := Aside0.mk (below_step (by repeat (first | (with_reducible first | exact HM.out | apply below_alloc | apply pw_below_drewN | apply below_drew1) | exact HM.out)) hb); clear HM; have HM := n_; clear n_ hb) | (go_at_call 33; refine (holds_ p ks ns 0 tok _ (HT.out.below (by repeat (first | (with_reducible first | exact HM.out | apply below_alloc | apply pw_below_drewN | apply below_drew1) | exact HM.out))) HZ.out).mono ?_; rintro e w3 ⟨rfl, hb⟩; rw [HBH.out]; have n_ := Aside0.mk (below_step (by repeat (first | (with_reducible first | exact HM.out | apply below_alloc | apply pw_below_drewN | apply below_drew1) | exact HM.out)) hb); clear HM; have HM := n_; clear n_ hb) | ((with_reducible refine gate_dst (N := 21) rfl ?_); refine Kd.R_lit k58 _ 58 ?hg (N := 21) ?hd (xs := [((0 : Int), (1 : Int))]) (inner := [.int .i64 0, .int .i64 1]) (ok := fun _ => True) (okp := fun _ => True) ?hr ?hp (fun _ hk => hk) trivial (Below.refl _ _) (Nat.le_refl _) (by simp) ?_; (case hd => rfl); (case hg => rfl); (case hr => first | (go_simp; done) | (go_simp; rfl)); (case hp => exact (Reps.two (k58_mkM _ _ _ ((0 : Int), (1 : Int))))); intro v1 w4 ho hb hg_ hnew_; have HR := Aside0.mk (Kd.R_lower ho (below_size (by repeat (first | (with_reducible first | exact HM.out | apply below_alloc | apply pw_below_drewN | apply below_drew1) | exact HM.out)))); have n_ := Aside0.mk (below_step (by repeat (first | (with_reducible first | exact HM.out | apply below_alloc | apply pw_below_drewN | apply below_drew1) | exact HM.out)) hb); clear HM; have HM := n_; clear n_ hb; clear ho hg_ hnew_))
  have HQ := Aside0.mk (Kd.Q_of_R HR.out)
  clear HR
  go_loopg [5, 6, 7] (nr + 1) (fun kq v5 v6 v7 w' => ∃ (n : Nat) (q : List (Int × Int)) (b d : Int), v5 = .int .i64 b ∧ v6 = .int .i64 d ∧ Aside0 (kq = n + 1) ∧ Aside0 (WithK ks tok n q b d r) ∧ Aside0 (Kd.Q k58 58 w' w.heap.size (fun _ => True) v7 q) ∧ Aside0 (Below w.heap.size w w'))
  case atStart => exact ⟨nr, [(0, 1)], 0, 1, rfl, rfl, ⟨rfl⟩, WK, HQ, HM⟩
  case round =>
   clear HQ WK HM
   obtain ⟨n, q0, b, d, rfl, rfl, HK, WK, H7, HB⟩ := hrel
   cases gk with
   | zero => have := HK.out; omega
   | succ k1 =>
    have hc := WK.out
    cases hc with
    | nil =>
     obtain ⟨A7, c7, e7, _⟩ := Kd.Q_slice H7.out
     subst e7
     rw [List.length_nil]
     go_wp2
     go_ret
     exact ⟨rfl, HB.out⟩
    | cons hh hch hkk hkl hql hxd hw2 =>
     rename_i n2 x q kids
     obtain ⟨xn, xd⟩ := x
     have HH := Aside0.mk hh
     have CK := Aside0.mk hch
     have KK := Aside0.mk hkk
     have KL := Aside0.mk hkl
     have QL := Aside0.mk hql
     have XD := Aside0.mk hxd
     have W2 := Aside0.mk hw2
     obtain ⟨gq, oq, cq, e7, _, _, _⟩ := Kd.Q_form H7.out (by simp)
     subst e7
     obtain ⟨m, hm⟩ : ∃ m, ((xn, xd) :: q).length = m := ⟨_, rfl⟩
     have M7 : Aside0 (m = q.length + 1) := ⟨by rw [← hm]; rfl⟩
     rw [hm] at H7 ⊢
     have LC := Aside0.mk (Kd.Q_reads' H7.out).2.1
     have p1 : (0 : Int) ≤ 0 := Int.le_refl _
     have q1 : (0 : Int) < (m : Int) := by have := M7.out; omega
     obtain ⟨ce, hl1, hM1, hc1, hf1⟩ := Kd.Q_elem H7.out (0, 0) 0 p1 q1
     obtain rfl := k58_openM hM1
     have y0 := hc1 0 _ rfl
     have y1 := hc1 1 _ rfl
     replace y0 : wr.cell? ⟨gq, oq, none⟩ = some (.int .i64 xn) := by simpa using y0
     replace y1 : wr.cell? ⟨gq, oq + 1, none⟩ = some (.int .i64 xd) := by simpa using y1
     have pm : ((m : Int) > 0) = True := eq_true (by have := M7.out; omega)
     have pm2 : ((0 : Int) < (m : Int)) = True := eq_true q1
     have pm3 : (0 < m) = True := eq_true (by have := M7.out; omega)
     have pm4 : ((1 : Int) ≤ (m : Int)) = True := eq_true (by have := M7.out; omega)
     have pm5 : (1 ≤ m) = True := eq_true (by have := M7.out; omega)
     clear hm hh hch hkk hkl hql hxd hw2 hl1 hc1 hf1 hM1 p1 q1
     go_upto_region 7 with (first | ((with_reducible refine gate_dst (N := 8) rfl ?_); refine box_event ?hg (N := 8) ?hd (cs := #[.int .i64 0, .int .i64 0]) (t := 58) ?hr ?_; (case hd => rfl); (case hg => rfl); (case hr => first | (go_simp; done) | (go_simp; rfl)); intro g8 hg w1 hbox hb; have B8 := Aside0.mk hbox; have G8 := Aside0.mk ((by rw [hg]; exact (below_size (by repeat (first | (with_reducible first | exact HB.out | apply below_alloc | apply pw_below_drewN | apply below_drew1) | exact HB.out)))) : w.heap.size ≤ g8); have H7b := Aside0.mk (Kd.Q_below H7.out hb); have L7 := Aside0.mk (show ∀ k, (Value.slice (some ⟨gq, oq, none⟩) m cq).ownBlock = some k → k ≠ g8 from fun k hk e => by have h1_ := Kd.Q_lt H7.out k hk; rw [hg] at e; have h2_ := wr.heap.size; omega); have n_ := Aside0.mk (below_step (by repeat (first | (with_reducible first | exact HB.out | apply below_alloc | apply pw_below_drewN | apply below_drew1) | exact HB.out)) hb); clear HB; have HB := n_; clear n_ hb hbox hg H7; have c80 : w1.cell? ⟨g8, 0, none⟩ = some (.int .i64 0) := (blk_cell B8.out 0).trans rfl; have c81 : w1.cell? ⟨g8, 1, none⟩ = some (.int .i64 0) := (blk_cell B8.out 1).trans rfl; have f80 := blk_frozen B8.out 0; have f81 := blk_frozen B8.out 1))
     have E0 := Aside0.mk (blk_put B8.out 0 (.int .i64 xn) rfl)
     have E8 := Aside0.mk (show ((w1.setCell ⟨g8, 0, none⟩ (.int .i64 xn)).setCell ⟨g8, 1, none⟩ (.int .i64 xd)).heap[g8]? = some (.cells #[.int .i64 xn, .int .i64 xd] 58 (0, 0)) from blk_put E0.out 1 (.int .i64 xd) rfl)
     have H8 := Aside0.mk (Kd.Q_mono (Kd.Q_far (p := ⟨g8, 1, none⟩) (Kd.Q_far (p := ⟨g8, 0, none⟩) (Kd.Q_tight rfl H7b.out) (fun k hk => L7.out k hk.symm) (.int .i64 xn)) (fun k hk => L7.out k hk.symm) (.int .i64 xd)) (fun k hk => hk.symm))
     have n_ := Aside0.mk (below_set (below_set HB.out G8.out (v := .int .i64 xn) (j := 0)) G8.out (v := .int .i64 xd) (j := 1))
     clear HB
     have HB := n_
     clear n_ B8 E0 H7b c80 c81 f80 f81 y0 y1
     generalize (w1.setCell ⟨g8, 0, none⟩ (.int .i64 xn)).setCell ⟨g8, 1, none⟩ (.int .i64 xd) = w2 at E8 H8 HB ⊢
     have HD := Aside0.mk (Kd.Q_drop (k := 1) H8.out (by simp))
     go_upto_region 8 with (first | fail)
     obtain ⟨v7, hv7⟩ : ∃ v7, v7 = Value.slice (if cq = 1 then some ⟨gq, oq, none⟩ else some ⟨gq, oq + 2, none⟩) (m - 1) (cq - 1) := ⟨_, rfl⟩
     have HQ7 : Aside0 (Kd.Q k58 58 w2 w.heap.size (fun _ => True) v7 q) := ⟨by rw [hv7]; exact Kd.Q_mono HD.out (fun _ _ => trivial)⟩
     have L7v : Aside0 (∀ k, v7.ownBlock = some k → k ≠ g8) := ⟨fun k hk => by rw [hv7] at hk; exact L7.out k (HD.out.1 k hk)⟩
     rw [← hv7]
     clear hv7 HD H8 L7
     have x80 : w2.cell? ⟨g8, 0, none⟩ = some (.int .i64 xn) := (blk_cell E8.out 0).trans rfl
     have x81 : w2.cell? ⟨g8, 1, none⟩ = some (.int .i64 xd) := (blk_cell E8.out 1).trans rfl
     by_cases c1 : xd > d
     ·have UB : Aside0 (upd (xn, xd) b d = (xn, xd)) := ⟨if_pos (.inl c1)⟩
      have d1 : decide (xd > d) = true := decide_eq_true c1
      go_wp2
      refine start_ (n := 6) (S := fun w' => w'.cell? ⟨g8, 0, none⟩ = some (.int .i64 xn) ∧ w'.cell? ⟨g8, 1, none⟩ = some (.int .i64 xd)) (ds := []) #[false, false, false, false, false, false] (by kernel_rfl) rfl rfl ⟨(blk_cell (blk_drew E8.out) 0).trans rfl, (blk_cell (blk_drew E8.out) 1).trans rfl⟩ (fun hHeld => ?_)
      have n_ := Aside0.mk (Kd.Q_drew HQ7.out)
      clear HQ7
      have HQ7 := n_
      clear n_
      have n_ := Aside0.mk (blk_drew E8.out)
      clear E8
      have E8 := n_
      clear n_
      have n_ := Aside0.mk (below_drew1 HB.out)
      clear HB
      have HB := n_
      clear n_
      clear x80 x81
      generalize w2.drew = w3 at HQ7 E8 HB hHeld ⊢
      refine pure_ (i := 0) (N := some 46) (v := ?_) (a' := ?_) #[true, false, false, false, false, false] rfl rfl (by kernel_rfl) (fun _ _ _ h => h) (Or.inl ⟨by rfl, ?_⟩) ?_ ?_
      rotate_left
      ·intro w'
       go_simp
       with_reducible rfl
      rotate_left
      ·simp only [Act.put, List.setIfInBounds_toArray, List.set_cons_zero, List.set_cons_succ, i64_w, i32_w]
       rfl
      refine take_ (i := 1) (N := some 47) (v := ?_) (a' := ?_) #[true, true, false, false, false, false] rfl rfl (by kernel_rfl) (fun _ _ _ h => h) (Or.inl ⟨by rfl, ?_⟩) hHeld ?_ ?_
      rotate_left
      ·rintro w' ⟨s0, s1⟩
       go_simp
       with_reducible rfl
      rotate_left
      ·simp only [Act.put, List.setIfInBounds_toArray, List.set_cons_zero, List.set_cons_succ, i64_w, i32_w]
       rfl
      refine pure_ (i := 2) (N := some 48) (v := ?_) (a' := ?_) #[true, true, true, false, false, false] rfl rfl (by kernel_rfl) (fun _ _ _ h => h) (Or.inl ⟨by rfl, ?_⟩) ?_ ?_
      rotate_left
      ·intro w'
       go_simp
       with_reducible rfl
      rotate_left
      ·simp only [Act.put, List.setIfInBounds_toArray, List.set_cons_zero, List.set_cons_succ, i64_w, i32_w]
       rfl
      refine take_ (i := 3) (N := some 49) (v := ?_) (a' := ?_) #[true, true, true, true, false, false] rfl rfl (by kernel_rfl) (fun _ _ _ h => h) (Or.inl ⟨by rfl, ?_⟩) hHeld ?_ ?_
      rotate_left
      ·rintro w' ⟨s0, s1⟩
       go_simp
       with_reducible rfl
      rotate_left
      ·simp only [Act.put, List.setIfInBounds_toArray, List.set_cons_zero, List.set_cons_succ, i64_w, i32_w]
       rfl
      refine pure_ (i := 4) (N := some 5) (v := ?_) (a' := ?_) #[true, true, true, true, true, false] rfl rfl (by kernel_rfl) (fun _ _ _ h => h) (Or.inl ⟨by rfl, ?_⟩) ?_ ?_
      rotate_left
      ·intro w'
       go_simp
       with_reducible rfl
      rotate_left
      ·simp only [Act.put, List.setIfInBounds_toArray, List.set_cons_zero, List.set_cons_succ, i64_w, i32_w]
       rfl
      refine pure_ (i := 5) (N := some 6) (v := ?_) (a' := ?_) #[true, true, true, true, true, true] rfl rfl (by kernel_rfl) (fun _ _ _ h => h) (Or.inl ⟨by rfl, ?_⟩) ?_ ?_
      rotate_left
      ·intro w'
       go_simp
       with_reducible rfl
      rotate_left
      ·simp only [Act.put, List.setIfInBounds_toArray, List.set_cons_zero, List.set_cons_succ, i64_w, i32_w]
       rfl
      refine done_ (by kernel_rfl) ?_
      clear hHeld
      have x8n : w3.cell? ⟨g8, 0, none⟩ = some (.int .i64 xn) := (blk_cell E8.out 0).trans rfl
      go_wp2_with (first | (go_at_call 16; refine (kids_ p ks ns xn kids _ (HT.out.below (by repeat (first | (with_reducible first | exact HB.out | apply below_alloc | apply pw_below_drewN | apply below_drew1) | exact HB.out))) KL.out (fun _ => CK.out) (fun h => absurd (HH.out.symm.trans h) (by decide))).mono ?_; rintro e w4 ⟨v10, rfl, hr10, hb10⟩; have H10 := Aside0.mk (Kd.R_lower hr10 HB.out.size); have Q4 := Aside0.mk (Kd.Q_below HQ7.out hb10); have E4 := Aside0.mk (blk_below E8.out hb10); have B4 := Aside0.mk (below_step HB.out hb10); clear hr10 hb10; obtain ⟨A10, c10, e10⟩ := Kd.R_slice H10.out; subst e10))
      clear x8n
      have QS : Aside0 (Kd.Q k58 58 w4 w.heap.size (fun _ => True) v7 (q ++ ((kids.take 0).filter (fun k => holdB ks k tok)).map (fun k => (k, xd + 1)))) := ⟨by rw [List.take_zero, List.filter_nil, List.map_nil, List.append_nil]; exact Q4.out⟩
      go_loopg [7, 55] (kids.length + 1) (fun kq v7 v55 w' => ∃ (j : Nat) (a : Int), v55 = .int .i64 a ∧ Aside0 (a = (j : Int)) ∧ Aside0 (kq + j = kids.length + 1 ∧ j ≤ kids.length) ∧ Aside0 (Kd.Q k58 58 w' w.heap.size (fun _ => True) v7 (q ++ ((kids.take j).filter (fun k => holdB ks k tok)).map (fun k => (k, xd + 1)))) ∧ Aside0 (w'.heap[g8]? = some (.cells #[.int .i64 xn, .int .i64 xd] 58 (0, 0))) ∧ Aside0 (Kd.R (Kd.int .i64) 3 w' w.heap.size (fun _ => True) (.slice A10 kids.length c10) kids) ∧ Aside0 (∀ k, v7.ownBlock = some k → k ≠ g8) ∧ Aside0 (Below w.heap.size w w'))
      case atStart => exact ⟨0, 0, rfl, ⟨rfl⟩, ⟨⟨by omega, by omega⟩⟩, QS, E4, H10, L7v, B4⟩
      case round =>
       clear QS E4 H10 Q4 B4 E8 HQ7 HB L7v
       obtain ⟨j, a, rfl, HE, HK2, HQ, EE, HR, L7, HW⟩ := hrel
       cases gk with
       | zero => have := HK2.out; omega
       | succ k2 =>
        by_cases cc : a < (kids.length : Int)
        ·have c0b : decide (a < (kids.length : Int)) = true := decide_eq_true cc
         have hj : j < kids.length := by have := HE.out; omega
         have p1 : (0 : Int) ≤ a := by have := HE.out; omega
         have q1 : a < (kids.length : Int) := cc
         obtain ⟨ax, eax, xk⟩ := Kd.at_int (Kd.R_reads' HR.out).2.2 a p1 q1
         subst eax
         obtain ⟨kk, hkk⟩ : ∃ kk, kids[j]? = some kk := ⟨kids[j], List.getElem?_eq_getElem hj⟩
         have hrd : rd kids a = kk := by unfold rd; rw [HE.out, Int.toNat_natCast, List.getD_eq_getElem?_getD, hkk]; rfl
         rw [hrd] at xk
         have HKK := Aside0.mk (KK.out kk (List.mem_of_getElem? hkk))
         have TK_ : Aside0 (kids.take (j + 1) = kids.take j ++ [kk]) := ⟨by rw [List.take_succ_eq_append_getElem hj]; rw [List.getElem?_eq_getElem hj] at hkk; rw [Option.some.inj hkk]⟩
         have ew : wrap64 (a + 1) = a + 1 := wid (by have := HE.out; omega) (by have := HE.out; have := KL.out; omega)
         have ewd : wrap64 (xd + 1) = xd + 1 := wid (by have := XD.out; omega) (by have := XD.out; omega)
         have QB : Aside0 ((q ++ ((kids.take j).filter (fun k => holdB ks k tok)).map (fun k => (k, xd + 1))).length ≤ 2000000) := ⟨by rw [List.length_append, List.length_map]; have h1_ := List.length_filter_le (fun k => holdB ks k tok) (kids.take j); have h2_ := List.length_take_le j kids; have h3_ := KL.out; have h4_ := QL.out; omega⟩
         have e8d : wr.cell? ⟨g8, 1, none⟩ = some (.int .i64 xd) := (blk_cell EE.out 1).trans rfl
         replace p1 := eq_true p1
         replace q1 := eq_true q1
         obtain ⟨bh, hbh⟩ : ∃ b, holdB ks kk tok = b := ⟨_, rfl⟩
         have EHB := Aside0.mk hbh
         clear hrd hkk cc hbh e8d
         cases bh with
         | true =>
          have FE : Aside0 (((kids.take (j + 1)).filter (fun k => holdB ks k tok)).map (fun k => (k, xd + 1)) = ((kids.take j).filter (fun k => holdB ks k tok)).map (fun k => (k, xd + 1)) ++ [(kk, xd + 1)]) := ⟨by rw [TK_.out, List.filter_append, List.map_append, List.filter_cons, if_pos EHB.out]; rfl⟩
          go_wp2_with (first | (go_at_call 33; refine (holds_ p ks ns kk tok _ (HT.out.below (by repeat (first | (with_reducible first | exact HW.out | apply below_alloc | apply pw_below_drewN | apply below_drew1) | exact HW.out))) HKK.out).mono ?_; rintro e w5 ⟨rfl, hb⟩; rw [EHB.out]; have Q5 := Aside0.mk (Kd.Q_below HQ.out hb); have E5 := Aside0.mk (blk_below EE.out hb); have R5 := Aside0.mk (Kd.R_below HR.out hb); have W5 := Aside0.mk (below_step HW.out hb); clear hb; have e8d : w5.cell? ⟨g8, 1, none⟩ = some (.int .i64 xd) := (blk_cell E5.out 1).trans rfl) | ((with_reducible refine gate_builtin (b := .append) (xs := #[.tmp 63, .tmp 69]) rfl ?_); at_builtin; refine Kd.Q_append k58 (w0 := w) w.heap.size rfl (.tmp 63) (.tmp 69) 59 58 (.agg #[.int .i64 0, .int .i64 0]) 16 rfl Try.underlying59 info58 rfl (by decide) (by omega) u7 (q ++ ((kids.take j).filter (fun k => holdB ks k tok)).map (fun k => (k, xd + 1))) (kk, xd + 1) [.int .i64 kk, .int .i64 (xd + 1)] (fun _ => True) (fun _ => False) rfl (by first | (go_simp; done) | (go_simp; rfl)) ?aP (fun _ hk => hk.elim) ?aF ?aO ?aB ?aS ?aL ?_; (case aP => exact k58_mkM _ _ _ (kk, xd + 1)); (case aF => exact (fun _ _ => trivial)); (case aO => exact Q5.out); (case aB => exact W5.out); (case aS => exact W5.out.size); (case aL => have := QB.out; omega); intro v6 w6 ho6 hb6 hg6 hat6; have Q6 := Aside0.mk ho6; have W6 := Aside0.mk hb6; have R6 := Aside0.mk (Kd.R_over' R5.out (Kd.Q_typed Q5.out) (by decide) hg6); have E6 := Aside0.mk (blk_grown E5.out hg6 (fun e_ => L7.out _ e_.symm rfl)); have L6 : Aside0 (∀ k, v6.ownBlock = some k → k ≠ g8) := ⟨fun k hk => hat6.elim (fun e => L7.out k (e ▸ hk)) (fun ⟨b_, e, hb_⟩ => by have h1_ := (Array.getElem?_eq_some_iff.mp E5.out).1; rw [e] at hk; have h2_ := Option.some.inj hk; omega)⟩; clear ho6 hb6 hg6 hat6))
          go_roundg k2
          case measure => omega
          case rel => exact ⟨j + 1, a + 1, by first | rfl | rw [ew], ⟨by rw [HE.out]; rfl⟩, ⟨by have := HK2.out; omega⟩, ⟨by rw [FE.out, ← List.append_assoc]; exact Q6.out⟩, E6, R6, L6, W6⟩
         | false =>
          have FE : Aside0 (((kids.take (j + 1)).filter (fun k => holdB ks k tok)).map (fun k => (k, xd + 1)) = ((kids.take j).filter (fun k => holdB ks k tok)).map (fun k => (k, xd + 1))) := ⟨by rw [TK_.out, List.filter_append, List.map_append, List.filter_cons, if_neg (by rw [EHB.out]; decide)]; simp⟩
          go_wp2_with (first | (go_at_call 33; refine (holds_ p ks ns kk tok _ (HT.out.below (by repeat (first | (with_reducible first | exact HW.out | apply below_alloc | apply pw_below_drewN | apply below_drew1) | exact HW.out))) HKK.out).mono ?_; rintro e w5 ⟨rfl, hb⟩; rw [EHB.out]; have Q5 := Aside0.mk (Kd.Q_below HQ.out hb); have E5 := Aside0.mk (blk_below EE.out hb); have R5 := Aside0.mk (Kd.R_below HR.out hb); have W5 := Aside0.mk (below_step HW.out hb); clear hb))
          go_roundg k2
          case measure => omega
          case rel => exact ⟨j + 1, a + 1, by first | rfl | rw [ew], ⟨by rw [HE.out]; rfl⟩, ⟨by have := HK2.out; omega⟩, ⟨by rw [FE.out]; exact Q5.out⟩, E5, R5, L7, W5⟩
        ·have c0b : decide (a < (kids.length : Int)) = false := decide_eq_false cc
         have ej : j = kids.length := by have := HE.out; have := HK2.out; omega
         have HQ2 : Aside0 (Kd.Q k58 58 wr w.heap.size (fun _ => True) u7 (q ++ (kids.filter (fun k => holdB ks k tok)).map (fun k => (k, xd + 1)))) := ⟨by have h_ := HQ.out; rw [ej, List.take_length] at h_; exact h_⟩
         go_wp2
         go_roundg k1
         case measure => omega
         case rel => exact ⟨n2, _, xn, xd, rfl, rfl, ⟨by have h_ := HK.out; omega⟩, ⟨by have h_ := W2.out; rw [UB.out] at h_; exact h_⟩, HQ2, HW⟩
     ·have d1 : decide (xd > d) = false := decide_eq_false c1
      by_cases c2 : xd = d
      ·have d2 : (xd == d) = true := beq_iff_eq.mpr c2
       by_cases c3 : xn > b
       ·have UB : Aside0 (upd (xn, xd) b d = (xn, xd)) := ⟨if_pos (.inr ⟨c2, c3⟩)⟩
        have d3 : decide (xn > b) = true := decide_eq_true c3
        have C2 := Aside0.mk c2
        clear c2
        go_wp2
        refine start_ (n := 6) (S := fun w' => w'.cell? ⟨g8, 0, none⟩ = some (.int .i64 xn) ∧ w'.cell? ⟨g8, 1, none⟩ = some (.int .i64 xd)) (ds := []) #[false, false, false, false, false, false] (by kernel_rfl) rfl rfl ⟨(blk_cell (blk_drew E8.out) 0).trans rfl, (blk_cell (blk_drew E8.out) 1).trans rfl⟩ (fun hHeld => ?_)
        have n_ := Aside0.mk (Kd.Q_drew HQ7.out)
        clear HQ7
        have HQ7 := n_
        clear n_
        have n_ := Aside0.mk (blk_drew E8.out)
        clear E8
        have E8 := n_
        clear n_
        have n_ := Aside0.mk (below_drew1 HB.out)
        clear HB
        have HB := n_
        clear n_
        clear x80 x81
        generalize w2.drew = w3 at HQ7 E8 HB hHeld ⊢
        refine pure_ (i := 0) (N := some 46) (v := ?_) (a' := ?_) #[true, false, false, false, false, false] rfl rfl (by kernel_rfl) (fun _ _ _ h => h) (Or.inl ⟨by rfl, ?_⟩) ?_ ?_
        rotate_left
        ·intro w'
         go_simp
         with_reducible rfl
        rotate_left
        ·simp only [Act.put, List.setIfInBounds_toArray, List.set_cons_zero, List.set_cons_succ, i64_w, i32_w]
         rfl
        refine take_ (i := 1) (N := some 47) (v := ?_) (a' := ?_) #[true, true, false, false, false, false] rfl rfl (by kernel_rfl) (fun _ _ _ h => h) (Or.inl ⟨by rfl, ?_⟩) hHeld ?_ ?_
        rotate_left
        ·rintro w' ⟨s0, s1⟩
         go_simp
         with_reducible rfl
        rotate_left
        ·simp only [Act.put, List.setIfInBounds_toArray, List.set_cons_zero, List.set_cons_succ, i64_w, i32_w]
         rfl
        refine pure_ (i := 2) (N := some 48) (v := ?_) (a' := ?_) #[true, true, true, false, false, false] rfl rfl (by kernel_rfl) (fun _ _ _ h => h) (Or.inl ⟨by rfl, ?_⟩) ?_ ?_
        rotate_left
        ·intro w'
         go_simp
         with_reducible rfl
        rotate_left
        ·simp only [Act.put, List.setIfInBounds_toArray, List.set_cons_zero, List.set_cons_succ, i64_w, i32_w]
         rfl
        refine take_ (i := 3) (N := some 49) (v := ?_) (a' := ?_) #[true, true, true, true, false, false] rfl rfl (by kernel_rfl) (fun _ _ _ h => h) (Or.inl ⟨by rfl, ?_⟩) hHeld ?_ ?_
        rotate_left
        ·rintro w' ⟨s0, s1⟩
         go_simp
         with_reducible rfl
        rotate_left
        ·simp only [Act.put, List.setIfInBounds_toArray, List.set_cons_zero, List.set_cons_succ, i64_w, i32_w]
         rfl
        refine pure_ (i := 4) (N := some 5) (v := ?_) (a' := ?_) #[true, true, true, true, true, false] rfl rfl (by kernel_rfl) (fun _ _ _ h => h) (Or.inl ⟨by rfl, ?_⟩) ?_ ?_
        rotate_left
        ·intro w'
         go_simp
         with_reducible rfl
        rotate_left
        ·simp only [Act.put, List.setIfInBounds_toArray, List.set_cons_zero, List.set_cons_succ, i64_w, i32_w]
         rfl
        refine pure_ (i := 5) (N := some 6) (v := ?_) (a' := ?_) #[true, true, true, true, true, true] rfl rfl (by kernel_rfl) (fun _ _ _ h => h) (Or.inl ⟨by rfl, ?_⟩) ?_ ?_
        rotate_left
        ·intro w'
         go_simp
         with_reducible rfl
        rotate_left
        ·simp only [Act.put, List.setIfInBounds_toArray, List.set_cons_zero, List.set_cons_succ, i64_w, i32_w]
         rfl
        refine done_ (by kernel_rfl) ?_
        clear hHeld
        have x8n : w3.cell? ⟨g8, 0, none⟩ = some (.int .i64 xn) := (blk_cell E8.out 0).trans rfl
        go_wp2_with (first | (go_at_call 16; refine (kids_ p ks ns xn kids _ (HT.out.below (by repeat (first | (with_reducible first | exact HB.out | apply below_alloc | apply pw_below_drewN | apply below_drew1) | exact HB.out))) KL.out (fun _ => CK.out) (fun h => absurd (HH.out.symm.trans h) (by decide))).mono ?_; rintro e w4 ⟨v10, rfl, hr10, hb10⟩; have H10 := Aside0.mk (Kd.R_lower hr10 HB.out.size); have Q4 := Aside0.mk (Kd.Q_below HQ7.out hb10); have E4 := Aside0.mk (blk_below E8.out hb10); have B4 := Aside0.mk (below_step HB.out hb10); clear hr10 hb10; obtain ⟨A10, c10, e10⟩ := Kd.R_slice H10.out; subst e10))
        clear x8n
        have QS : Aside0 (Kd.Q k58 58 w4 w.heap.size (fun _ => True) v7 (q ++ ((kids.take 0).filter (fun k => holdB ks k tok)).map (fun k => (k, xd + 1)))) := ⟨by rw [List.take_zero, List.filter_nil, List.map_nil, List.append_nil]; exact Q4.out⟩
        go_loopg [7, 55] (kids.length + 1) (fun kq v7 v55 w' => ∃ (j : Nat) (a : Int), v55 = .int .i64 a ∧ Aside0 (a = (j : Int)) ∧ Aside0 (kq + j = kids.length + 1 ∧ j ≤ kids.length) ∧ Aside0 (Kd.Q k58 58 w' w.heap.size (fun _ => True) v7 (q ++ ((kids.take j).filter (fun k => holdB ks k tok)).map (fun k => (k, xd + 1)))) ∧ Aside0 (w'.heap[g8]? = some (.cells #[.int .i64 xn, .int .i64 xd] 58 (0, 0))) ∧ Aside0 (Kd.R (Kd.int .i64) 3 w' w.heap.size (fun _ => True) (.slice A10 kids.length c10) kids) ∧ Aside0 (∀ k, v7.ownBlock = some k → k ≠ g8) ∧ Aside0 (Below w.heap.size w w'))
        case atStart => exact ⟨0, 0, rfl, ⟨rfl⟩, ⟨⟨by omega, by omega⟩⟩, QS, E4, H10, L7v, B4⟩
        case round =>
         clear QS E4 H10 Q4 B4 E8 HQ7 HB L7v
         obtain ⟨j, a, rfl, HE, HK2, HQ, EE, HR, L7, HW⟩ := hrel
         cases gk with
         | zero => have := HK2.out; omega
         | succ k2 =>
          by_cases cc : a < (kids.length : Int)
          ·have c0b : decide (a < (kids.length : Int)) = true := decide_eq_true cc
           have hj : j < kids.length := by have := HE.out; omega
           have p1 : (0 : Int) ≤ a := by have := HE.out; omega
           have q1 : a < (kids.length : Int) := cc
           obtain ⟨ax, eax, xk⟩ := Kd.at_int (Kd.R_reads' HR.out).2.2 a p1 q1
           subst eax
           obtain ⟨kk, hkk⟩ : ∃ kk, kids[j]? = some kk := ⟨kids[j], List.getElem?_eq_getElem hj⟩
           have hrd : rd kids a = kk := by unfold rd; rw [HE.out, Int.toNat_natCast, List.getD_eq_getElem?_getD, hkk]; rfl
           rw [hrd] at xk
           have HKK := Aside0.mk (KK.out kk (List.mem_of_getElem? hkk))
           have TK_ : Aside0 (kids.take (j + 1) = kids.take j ++ [kk]) := ⟨by rw [List.take_succ_eq_append_getElem hj]; rw [List.getElem?_eq_getElem hj] at hkk; rw [Option.some.inj hkk]⟩
           have ew : wrap64 (a + 1) = a + 1 := wid (by have := HE.out; omega) (by have := HE.out; have := KL.out; omega)
           have ewd : wrap64 (xd + 1) = xd + 1 := wid (by have := XD.out; omega) (by have := XD.out; omega)
           have QB : Aside0 ((q ++ ((kids.take j).filter (fun k => holdB ks k tok)).map (fun k => (k, xd + 1))).length ≤ 2000000) := ⟨by rw [List.length_append, List.length_map]; have h1_ := List.length_filter_le (fun k => holdB ks k tok) (kids.take j); have h2_ := List.length_take_le j kids; have h3_ := KL.out; have h4_ := QL.out; omega⟩
           have e8d : wr.cell? ⟨g8, 1, none⟩ = some (.int .i64 xd) := (blk_cell EE.out 1).trans rfl
           replace p1 := eq_true p1
           replace q1 := eq_true q1
           obtain ⟨bh, hbh⟩ : ∃ b, holdB ks kk tok = b := ⟨_, rfl⟩
           have EHB := Aside0.mk hbh
           clear hrd hkk cc hbh e8d
           cases bh with
           | true =>
            have FE : Aside0 (((kids.take (j + 1)).filter (fun k => holdB ks k tok)).map (fun k => (k, xd + 1)) = ((kids.take j).filter (fun k => holdB ks k tok)).map (fun k => (k, xd + 1)) ++ [(kk, xd + 1)]) := ⟨by rw [TK_.out, List.filter_append, List.map_append, List.filter_cons, if_pos EHB.out]; rfl⟩
            go_wp2_with (first | (go_at_call 33; refine (holds_ p ks ns kk tok _ (HT.out.below (by repeat (first | (with_reducible first | exact HW.out | apply below_alloc | apply pw_below_drewN | apply below_drew1) | exact HW.out))) HKK.out).mono ?_; rintro e w5 ⟨rfl, hb⟩; rw [EHB.out]; have Q5 := Aside0.mk (Kd.Q_below HQ.out hb); have E5 := Aside0.mk (blk_below EE.out hb); have R5 := Aside0.mk (Kd.R_below HR.out hb); have W5 := Aside0.mk (below_step HW.out hb); clear hb; have e8d : w5.cell? ⟨g8, 1, none⟩ = some (.int .i64 xd) := (blk_cell E5.out 1).trans rfl) | ((with_reducible refine gate_builtin (b := .append) (xs := #[.tmp 63, .tmp 69]) rfl ?_); at_builtin; refine Kd.Q_append k58 (w0 := w) w.heap.size rfl (.tmp 63) (.tmp 69) 59 58 (.agg #[.int .i64 0, .int .i64 0]) 16 rfl Try.underlying59 info58 rfl (by decide) (by omega) u7 (q ++ ((kids.take j).filter (fun k => holdB ks k tok)).map (fun k => (k, xd + 1))) (kk, xd + 1) [.int .i64 kk, .int .i64 (xd + 1)] (fun _ => True) (fun _ => False) rfl (by first | (go_simp; done) | (go_simp; rfl)) ?aP (fun _ hk => hk.elim) ?aF ?aO ?aB ?aS ?aL ?_; (case aP => exact k58_mkM _ _ _ (kk, xd + 1)); (case aF => exact (fun _ _ => trivial)); (case aO => exact Q5.out); (case aB => exact W5.out); (case aS => exact W5.out.size); (case aL => have := QB.out; omega); intro v6 w6 ho6 hb6 hg6 hat6; have Q6 := Aside0.mk ho6; have W6 := Aside0.mk hb6; have R6 := Aside0.mk (Kd.R_over' R5.out (Kd.Q_typed Q5.out) (by decide) hg6); have E6 := Aside0.mk (blk_grown E5.out hg6 (fun e_ => L7.out _ e_.symm rfl)); have L6 : Aside0 (∀ k, v6.ownBlock = some k → k ≠ g8) := ⟨fun k hk => hat6.elim (fun e => L7.out k (e ▸ hk)) (fun ⟨b_, e, hb_⟩ => by have h1_ := (Array.getElem?_eq_some_iff.mp E5.out).1; rw [e] at hk; have h2_ := Option.some.inj hk; omega)⟩; clear ho6 hb6 hg6 hat6))
            go_roundg k2
            case measure => omega
            case rel => exact ⟨j + 1, a + 1, by first | rfl | rw [ew], ⟨by rw [HE.out]; rfl⟩, ⟨by have := HK2.out; omega⟩, ⟨by rw [FE.out, ← List.append_assoc]; exact Q6.out⟩, E6, R6, L6, W6⟩
           | false =>
            have FE : Aside0 (((kids.take (j + 1)).filter (fun k => holdB ks k tok)).map (fun k => (k, xd + 1)) = ((kids.take j).filter (fun k => holdB ks k tok)).map (fun k => (k, xd + 1))) := ⟨by rw [TK_.out, List.filter_append, List.map_append, List.filter_cons, if_neg (by rw [EHB.out]; decide)]; simp⟩
            go_wp2_with (first | (go_at_call 33; refine (holds_ p ks ns kk tok _ (HT.out.below (by repeat (first | (with_reducible first | exact HW.out | apply below_alloc | apply pw_below_drewN | apply below_drew1) | exact HW.out))) HKK.out).mono ?_; rintro e w5 ⟨rfl, hb⟩; rw [EHB.out]; have Q5 := Aside0.mk (Kd.Q_below HQ.out hb); have E5 := Aside0.mk (blk_below EE.out hb); have R5 := Aside0.mk (Kd.R_below HR.out hb); have W5 := Aside0.mk (below_step HW.out hb); clear hb))
            go_roundg k2
            case measure => omega
            case rel => exact ⟨j + 1, a + 1, by first | rfl | rw [ew], ⟨by rw [HE.out]; rfl⟩, ⟨by have := HK2.out; omega⟩, ⟨by rw [FE.out]; exact Q5.out⟩, E5, R5, L7, W5⟩
          ·have c0b : decide (a < (kids.length : Int)) = false := decide_eq_false cc
           have ej : j = kids.length := by have := HE.out; have := HK2.out; omega
           have HQ2 : Aside0 (Kd.Q k58 58 wr w.heap.size (fun _ => True) u7 (q ++ (kids.filter (fun k => holdB ks k tok)).map (fun k => (k, xd + 1)))) := ⟨by have h_ := HQ.out; rw [ej, List.take_length] at h_; exact h_⟩
           go_wp2
           go_roundg k1
           case measure => omega
           case rel => exact ⟨n2, _, xn, xd, rfl, rfl, ⟨by have h_ := HK.out; omega⟩, ⟨by have h_ := W2.out; rw [UB.out] at h_; exact h_⟩, HQ2, HW⟩
       ·have UB : Aside0 (upd (xn, xd) b d = (b, d)) := ⟨if_neg (fun h => h.elim c1 (fun h => c3 h.2))⟩
        have d3 : decide (xn > b) = false := decide_eq_false c3
        have C2 := Aside0.mk c2
        clear c2
        go_upto_region 10 with (first | fail)
        clear x80 x81
        have x8n : w2.cell? ⟨g8, 0, none⟩ = some (.int .i64 xn) := (blk_cell E8.out 0).trans rfl
        go_wp2_with (first | (go_at_call 16; refine (kids_ p ks ns xn kids _ (HT.out.below (by repeat (first | (with_reducible first | exact HB.out | apply below_alloc | apply pw_below_drewN | apply below_drew1) | exact HB.out))) KL.out (fun _ => CK.out) (fun h => absurd (HH.out.symm.trans h) (by decide))).mono ?_; rintro e w4 ⟨v10, rfl, hr10, hb10⟩; have H10 := Aside0.mk (Kd.R_lower hr10 HB.out.size); have Q4 := Aside0.mk (Kd.Q_below HQ7.out hb10); have E4 := Aside0.mk (blk_below E8.out hb10); have B4 := Aside0.mk (below_step HB.out hb10); clear hr10 hb10; obtain ⟨A10, c10, e10⟩ := Kd.R_slice H10.out; subst e10))
        clear x8n
        have QS : Aside0 (Kd.Q k58 58 w4 w.heap.size (fun _ => True) v7 (q ++ ((kids.take 0).filter (fun k => holdB ks k tok)).map (fun k => (k, xd + 1)))) := ⟨by rw [List.take_zero, List.filter_nil, List.map_nil, List.append_nil]; exact Q4.out⟩
        go_loopg [7, 55] (kids.length + 1) (fun kq v7 v55 w' => ∃ (j : Nat) (a : Int), v55 = .int .i64 a ∧ Aside0 (a = (j : Int)) ∧ Aside0 (kq + j = kids.length + 1 ∧ j ≤ kids.length) ∧ Aside0 (Kd.Q k58 58 w' w.heap.size (fun _ => True) v7 (q ++ ((kids.take j).filter (fun k => holdB ks k tok)).map (fun k => (k, xd + 1)))) ∧ Aside0 (w'.heap[g8]? = some (.cells #[.int .i64 xn, .int .i64 xd] 58 (0, 0))) ∧ Aside0 (Kd.R (Kd.int .i64) 3 w' w.heap.size (fun _ => True) (.slice A10 kids.length c10) kids) ∧ Aside0 (∀ k, v7.ownBlock = some k → k ≠ g8) ∧ Aside0 (Below w.heap.size w w'))
        case atStart => exact ⟨0, 0, rfl, ⟨rfl⟩, ⟨⟨by omega, by omega⟩⟩, QS, E4, H10, L7v, B4⟩
        case round =>
         clear QS E4 H10 Q4 B4 E8 HQ7 HB L7v
         obtain ⟨j, a, rfl, HE, HK2, HQ, EE, HR, L7, HW⟩ := hrel
         cases gk with
         | zero => have := HK2.out; omega
         | succ k2 =>
          by_cases cc : a < (kids.length : Int)
          ·have c0b : decide (a < (kids.length : Int)) = true := decide_eq_true cc
           have hj : j < kids.length := by have := HE.out; omega
           have p1 : (0 : Int) ≤ a := by have := HE.out; omega
           have q1 : a < (kids.length : Int) := cc
           obtain ⟨ax, eax, xk⟩ := Kd.at_int (Kd.R_reads' HR.out).2.2 a p1 q1
           subst eax
           obtain ⟨kk, hkk⟩ : ∃ kk, kids[j]? = some kk := ⟨kids[j], List.getElem?_eq_getElem hj⟩
           have hrd : rd kids a = kk := by unfold rd; rw [HE.out, Int.toNat_natCast, List.getD_eq_getElem?_getD, hkk]; rfl
           rw [hrd] at xk
           have HKK := Aside0.mk (KK.out kk (List.mem_of_getElem? hkk))
           have TK_ : Aside0 (kids.take (j + 1) = kids.take j ++ [kk]) := ⟨by rw [List.take_succ_eq_append_getElem hj]; rw [List.getElem?_eq_getElem hj] at hkk; rw [Option.some.inj hkk]⟩
           have ew : wrap64 (a + 1) = a + 1 := wid (by have := HE.out; omega) (by have := HE.out; have := KL.out; omega)
           have ewd : wrap64 (xd + 1) = xd + 1 := wid (by have := XD.out; omega) (by have := XD.out; omega)
           have QB : Aside0 ((q ++ ((kids.take j).filter (fun k => holdB ks k tok)).map (fun k => (k, xd + 1))).length ≤ 2000000) := ⟨by rw [List.length_append, List.length_map]; have h1_ := List.length_filter_le (fun k => holdB ks k tok) (kids.take j); have h2_ := List.length_take_le j kids; have h3_ := KL.out; have h4_ := QL.out; omega⟩
           have e8d : wr.cell? ⟨g8, 1, none⟩ = some (.int .i64 xd) := (blk_cell EE.out 1).trans rfl
           replace p1 := eq_true p1
           replace q1 := eq_true q1
           obtain ⟨bh, hbh⟩ : ∃ b, holdB ks kk tok = b := ⟨_, rfl⟩
           have EHB := Aside0.mk hbh
           clear hrd hkk cc hbh e8d
           cases bh with
           | true =>
            have FE : Aside0 (((kids.take (j + 1)).filter (fun k => holdB ks k tok)).map (fun k => (k, xd + 1)) = ((kids.take j).filter (fun k => holdB ks k tok)).map (fun k => (k, xd + 1)) ++ [(kk, xd + 1)]) := ⟨by rw [TK_.out, List.filter_append, List.map_append, List.filter_cons, if_pos EHB.out]; rfl⟩
            go_wp2_with (first | (go_at_call 33; refine (holds_ p ks ns kk tok _ (HT.out.below (by repeat (first | (with_reducible first | exact HW.out | apply below_alloc | apply pw_below_drewN | apply below_drew1) | exact HW.out))) HKK.out).mono ?_; rintro e w5 ⟨rfl, hb⟩; rw [EHB.out]; have Q5 := Aside0.mk (Kd.Q_below HQ.out hb); have E5 := Aside0.mk (blk_below EE.out hb); have R5 := Aside0.mk (Kd.R_below HR.out hb); have W5 := Aside0.mk (below_step HW.out hb); clear hb; have e8d : w5.cell? ⟨g8, 1, none⟩ = some (.int .i64 xd) := (blk_cell E5.out 1).trans rfl) | ((with_reducible refine gate_builtin (b := .append) (xs := #[.tmp 63, .tmp 69]) rfl ?_); at_builtin; refine Kd.Q_append k58 (w0 := w) w.heap.size rfl (.tmp 63) (.tmp 69) 59 58 (.agg #[.int .i64 0, .int .i64 0]) 16 rfl Try.underlying59 info58 rfl (by decide) (by omega) u7 (q ++ ((kids.take j).filter (fun k => holdB ks k tok)).map (fun k => (k, xd + 1))) (kk, xd + 1) [.int .i64 kk, .int .i64 (xd + 1)] (fun _ => True) (fun _ => False) rfl (by first | (go_simp; done) | (go_simp; rfl)) ?aP (fun _ hk => hk.elim) ?aF ?aO ?aB ?aS ?aL ?_; (case aP => exact k58_mkM _ _ _ (kk, xd + 1)); (case aF => exact (fun _ _ => trivial)); (case aO => exact Q5.out); (case aB => exact W5.out); (case aS => exact W5.out.size); (case aL => have := QB.out; omega); intro v6 w6 ho6 hb6 hg6 hat6; have Q6 := Aside0.mk ho6; have W6 := Aside0.mk hb6; have R6 := Aside0.mk (Kd.R_over' R5.out (Kd.Q_typed Q5.out) (by decide) hg6); have E6 := Aside0.mk (blk_grown E5.out hg6 (fun e_ => L7.out _ e_.symm rfl)); have L6 : Aside0 (∀ k, v6.ownBlock = some k → k ≠ g8) := ⟨fun k hk => hat6.elim (fun e => L7.out k (e ▸ hk)) (fun ⟨b_, e, hb_⟩ => by have h1_ := (Array.getElem?_eq_some_iff.mp E5.out).1; rw [e] at hk; have h2_ := Option.some.inj hk; omega)⟩; clear ho6 hb6 hg6 hat6))
            go_roundg k2
            case measure => omega
            case rel => exact ⟨j + 1, a + 1, by first | rfl | rw [ew], ⟨by rw [HE.out]; rfl⟩, ⟨by have := HK2.out; omega⟩, ⟨by rw [FE.out, ← List.append_assoc]; exact Q6.out⟩, E6, R6, L6, W6⟩
           | false =>
            have FE : Aside0 (((kids.take (j + 1)).filter (fun k => holdB ks k tok)).map (fun k => (k, xd + 1)) = ((kids.take j).filter (fun k => holdB ks k tok)).map (fun k => (k, xd + 1))) := ⟨by rw [TK_.out, List.filter_append, List.map_append, List.filter_cons, if_neg (by rw [EHB.out]; decide)]; simp⟩
            go_wp2_with (first | (go_at_call 33; refine (holds_ p ks ns kk tok _ (HT.out.below (by repeat (first | (with_reducible first | exact HW.out | apply below_alloc | apply pw_below_drewN | apply below_drew1) | exact HW.out))) HKK.out).mono ?_; rintro e w5 ⟨rfl, hb⟩; rw [EHB.out]; have Q5 := Aside0.mk (Kd.Q_below HQ.out hb); have E5 := Aside0.mk (blk_below EE.out hb); have R5 := Aside0.mk (Kd.R_below HR.out hb); have W5 := Aside0.mk (below_step HW.out hb); clear hb))
            go_roundg k2
            case measure => omega
            case rel => exact ⟨j + 1, a + 1, by first | rfl | rw [ew], ⟨by rw [HE.out]; rfl⟩, ⟨by have := HK2.out; omega⟩, ⟨by rw [FE.out]; exact Q5.out⟩, E5, R5, L7, W5⟩
          ·have c0b : decide (a < (kids.length : Int)) = false := decide_eq_false cc
           have ej : j = kids.length := by have := HE.out; have := HK2.out; omega
           have HQ2 : Aside0 (Kd.Q k58 58 wr w.heap.size (fun _ => True) u7 (q ++ (kids.filter (fun k => holdB ks k tok)).map (fun k => (k, xd + 1)))) := ⟨by have h_ := HQ.out; rw [ej, List.take_length] at h_; exact h_⟩
           go_wp2
           go_roundg k1
           case measure => omega
           case rel => exact ⟨n2, _, b, d, rfl, rfl, ⟨by have h_ := HK.out; omega⟩, ⟨by have h_ := W2.out; rw [UB.out] at h_; exact h_⟩, HQ2, HW⟩
      ·have UB : Aside0 (upd (xn, xd) b d = (b, d)) := ⟨if_neg (fun h => h.elim c1 (fun h => c2 h.1))⟩
       have d2 : (xd == d) = false := beq_eq_false_iff_ne.mpr c2
       go_upto_region 10 with (first | fail)
       clear x80 x81
       have x8n : w2.cell? ⟨g8, 0, none⟩ = some (.int .i64 xn) := (blk_cell E8.out 0).trans rfl
       go_wp2_with (first | (go_at_call 16; refine (kids_ p ks ns xn kids _ (HT.out.below (by repeat (first | (with_reducible first | exact HB.out | apply below_alloc | apply pw_below_drewN | apply below_drew1) | exact HB.out))) KL.out (fun _ => CK.out) (fun h => absurd (HH.out.symm.trans h) (by decide))).mono ?_; rintro e w4 ⟨v10, rfl, hr10, hb10⟩; have H10 := Aside0.mk (Kd.R_lower hr10 HB.out.size); have Q4 := Aside0.mk (Kd.Q_below HQ7.out hb10); have E4 := Aside0.mk (blk_below E8.out hb10); have B4 := Aside0.mk (below_step HB.out hb10); clear hr10 hb10; obtain ⟨A10, c10, e10⟩ := Kd.R_slice H10.out; subst e10))
       clear x8n
       have QS : Aside0 (Kd.Q k58 58 w4 w.heap.size (fun _ => True) v7 (q ++ ((kids.take 0).filter (fun k => holdB ks k tok)).map (fun k => (k, xd + 1)))) := ⟨by rw [List.take_zero, List.filter_nil, List.map_nil, List.append_nil]; exact Q4.out⟩
       go_loopg [7, 55] (kids.length + 1) (fun kq v7 v55 w' => ∃ (j : Nat) (a : Int), v55 = .int .i64 a ∧ Aside0 (a = (j : Int)) ∧ Aside0 (kq + j = kids.length + 1 ∧ j ≤ kids.length) ∧ Aside0 (Kd.Q k58 58 w' w.heap.size (fun _ => True) v7 (q ++ ((kids.take j).filter (fun k => holdB ks k tok)).map (fun k => (k, xd + 1)))) ∧ Aside0 (w'.heap[g8]? = some (.cells #[.int .i64 xn, .int .i64 xd] 58 (0, 0))) ∧ Aside0 (Kd.R (Kd.int .i64) 3 w' w.heap.size (fun _ => True) (.slice A10 kids.length c10) kids) ∧ Aside0 (∀ k, v7.ownBlock = some k → k ≠ g8) ∧ Aside0 (Below w.heap.size w w'))
       case atStart => exact ⟨0, 0, rfl, ⟨rfl⟩, ⟨⟨by omega, by omega⟩⟩, QS, E4, H10, L7v, B4⟩
       case round =>
        clear QS E4 H10 Q4 B4 E8 HQ7 HB L7v
        obtain ⟨j, a, rfl, HE, HK2, HQ, EE, HR, L7, HW⟩ := hrel
        cases gk with
        | zero => have := HK2.out; omega
        | succ k2 =>
         by_cases cc : a < (kids.length : Int)
         ·have c0b : decide (a < (kids.length : Int)) = true := decide_eq_true cc
          have hj : j < kids.length := by have := HE.out; omega
          have p1 : (0 : Int) ≤ a := by have := HE.out; omega
          have q1 : a < (kids.length : Int) := cc
          obtain ⟨ax, eax, xk⟩ := Kd.at_int (Kd.R_reads' HR.out).2.2 a p1 q1
          subst eax
          obtain ⟨kk, hkk⟩ : ∃ kk, kids[j]? = some kk := ⟨kids[j], List.getElem?_eq_getElem hj⟩
          have hrd : rd kids a = kk := by unfold rd; rw [HE.out, Int.toNat_natCast, List.getD_eq_getElem?_getD, hkk]; rfl
          rw [hrd] at xk
          have HKK := Aside0.mk (KK.out kk (List.mem_of_getElem? hkk))
          have TK_ : Aside0 (kids.take (j + 1) = kids.take j ++ [kk]) := ⟨by rw [List.take_succ_eq_append_getElem hj]; rw [List.getElem?_eq_getElem hj] at hkk; rw [Option.some.inj hkk]⟩
          have ew : wrap64 (a + 1) = a + 1 := wid (by have := HE.out; omega) (by have := HE.out; have := KL.out; omega)
          have ewd : wrap64 (xd + 1) = xd + 1 := wid (by have := XD.out; omega) (by have := XD.out; omega)
          have QB : Aside0 ((q ++ ((kids.take j).filter (fun k => holdB ks k tok)).map (fun k => (k, xd + 1))).length ≤ 2000000) := ⟨by rw [List.length_append, List.length_map]; have h1_ := List.length_filter_le (fun k => holdB ks k tok) (kids.take j); have h2_ := List.length_take_le j kids; have h3_ := KL.out; have h4_ := QL.out; omega⟩
          have e8d : wr.cell? ⟨g8, 1, none⟩ = some (.int .i64 xd) := (blk_cell EE.out 1).trans rfl
          replace p1 := eq_true p1
          replace q1 := eq_true q1
          obtain ⟨bh, hbh⟩ : ∃ b, holdB ks kk tok = b := ⟨_, rfl⟩
          have EHB := Aside0.mk hbh
          clear hrd hkk cc hbh e8d
          cases bh with
          | true =>
           have FE : Aside0 (((kids.take (j + 1)).filter (fun k => holdB ks k tok)).map (fun k => (k, xd + 1)) = ((kids.take j).filter (fun k => holdB ks k tok)).map (fun k => (k, xd + 1)) ++ [(kk, xd + 1)]) := ⟨by rw [TK_.out, List.filter_append, List.map_append, List.filter_cons, if_pos EHB.out]; rfl⟩
           go_wp2_with (first | (go_at_call 33; refine (holds_ p ks ns kk tok _ (HT.out.below (by repeat (first | (with_reducible first | exact HW.out | apply below_alloc | apply pw_below_drewN | apply below_drew1) | exact HW.out))) HKK.out).mono ?_; rintro e w5 ⟨rfl, hb⟩; rw [EHB.out]; have Q5 := Aside0.mk (Kd.Q_below HQ.out hb); have E5 := Aside0.mk (blk_below EE.out hb); have R5 := Aside0.mk (Kd.R_below HR.out hb); have W5 := Aside0.mk (below_step HW.out hb); clear hb; have e8d : w5.cell? ⟨g8, 1, none⟩ = some (.int .i64 xd) := (blk_cell E5.out 1).trans rfl) | ((with_reducible refine gate_builtin (b := .append) (xs := #[.tmp 63, .tmp 69]) rfl ?_); at_builtin; refine Kd.Q_append k58 (w0 := w) w.heap.size rfl (.tmp 63) (.tmp 69) 59 58 (.agg #[.int .i64 0, .int .i64 0]) 16 rfl Try.underlying59 info58 rfl (by decide) (by omega) u7 (q ++ ((kids.take j).filter (fun k => holdB ks k tok)).map (fun k => (k, xd + 1))) (kk, xd + 1) [.int .i64 kk, .int .i64 (xd + 1)] (fun _ => True) (fun _ => False) rfl (by first | (go_simp; done) | (go_simp; rfl)) ?aP (fun _ hk => hk.elim) ?aF ?aO ?aB ?aS ?aL ?_; (case aP => exact k58_mkM _ _ _ (kk, xd + 1)); (case aF => exact (fun _ _ => trivial)); (case aO => exact Q5.out); (case aB => exact W5.out); (case aS => exact W5.out.size); (case aL => have := QB.out; omega); intro v6 w6 ho6 hb6 hg6 hat6; have Q6 := Aside0.mk ho6; have W6 := Aside0.mk hb6; have R6 := Aside0.mk (Kd.R_over' R5.out (Kd.Q_typed Q5.out) (by decide) hg6); have E6 := Aside0.mk (blk_grown E5.out hg6 (fun e_ => L7.out _ e_.symm rfl)); have L6 : Aside0 (∀ k, v6.ownBlock = some k → k ≠ g8) := ⟨fun k hk => hat6.elim (fun e => L7.out k (e ▸ hk)) (fun ⟨b_, e, hb_⟩ => by have h1_ := (Array.getElem?_eq_some_iff.mp E5.out).1; rw [e] at hk; have h2_ := Option.some.inj hk; omega)⟩; clear ho6 hb6 hg6 hat6))
           go_roundg k2
           case measure => omega
           case rel => exact ⟨j + 1, a + 1, by first | rfl | rw [ew], ⟨by rw [HE.out]; rfl⟩, ⟨by have := HK2.out; omega⟩, ⟨by rw [FE.out, ← List.append_assoc]; exact Q6.out⟩, E6, R6, L6, W6⟩
          | false =>
           have FE : Aside0 (((kids.take (j + 1)).filter (fun k => holdB ks k tok)).map (fun k => (k, xd + 1)) = ((kids.take j).filter (fun k => holdB ks k tok)).map (fun k => (k, xd + 1))) := ⟨by rw [TK_.out, List.filter_append, List.map_append, List.filter_cons, if_neg (by rw [EHB.out]; decide)]; simp⟩
           go_wp2_with (first | (go_at_call 33; refine (holds_ p ks ns kk tok _ (HT.out.below (by repeat (first | (with_reducible first | exact HW.out | apply below_alloc | apply pw_below_drewN | apply below_drew1) | exact HW.out))) HKK.out).mono ?_; rintro e w5 ⟨rfl, hb⟩; rw [EHB.out]; have Q5 := Aside0.mk (Kd.Q_below HQ.out hb); have E5 := Aside0.mk (blk_below EE.out hb); have R5 := Aside0.mk (Kd.R_below HR.out hb); have W5 := Aside0.mk (below_step HW.out hb); clear hb))
           go_roundg k2
           case measure => omega
           case rel => exact ⟨j + 1, a + 1, by first | rfl | rw [ew], ⟨by rw [HE.out]; rfl⟩, ⟨by have := HK2.out; omega⟩, ⟨by rw [FE.out]; exact Q5.out⟩, E5, R5, L7, W5⟩
         ·have c0b : decide (a < (kids.length : Int)) = false := decide_eq_false cc
          have ej : j = kids.length := by have := HE.out; have := HK2.out; omega
          have HQ2 : Aside0 (Kd.Q k58 58 wr w.heap.size (fun _ => True) u7 (q ++ (kids.filter (fun k => holdB ks k tok)).map (fun k => (k, xd + 1)))) := ⟨by have h_ := HQ.out; rw [ej, List.take_length] at h_; exact h_⟩
          go_wp2
          go_roundg k1
          case measure => omega
          case rel => exact ⟨n2, _, b, d, rfl, rfl, ⟨by have h_ := HK.out; omega⟩, ⟨by have h_ := W2.out; rw [UB.out] at h_; exact h_⟩, HQ2, HW⟩
end Go.Proofs.Ytemdnmidhmddlaa.Tree
