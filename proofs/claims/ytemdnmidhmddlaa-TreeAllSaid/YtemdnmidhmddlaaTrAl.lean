/- The law TreeAll, walked. Conditions: rows of names that are not too long. -/
import Derived.Test.YtemdnmidhmddlaaTrH
import Derived.Test.YtemdnmidhmddlaaTpE
namespace Go.Proofs.Ytemdnmidhmddlaa.TreeAll
open Go Go.RowKit Go.Proofs.YtemdnmidhmddlaaW.PrintWords Go.Proofs.YtemdnmidhmddlaaW.PrintLast Go.Proofs.YtemdnmidhmddlaaW.PrintMore Go.Proofs.Ytemdnmidhmddlaa.PAll Go.Proofs.Ytemdnmidhmddlaa.Tree
set_option linter.unusedVariables false
set_option linter.unusedSimpArgs false
theorem e39 : ∀ q, q ∈ 3 :: (Kd.int .i64).E → q ≠ 39 := fun q hq => by
  rcases List.mem_cons.mp hq with rfl | hq
  · decide
  · cases hq
set_option maxHeartbeats 8000000 in
set_option maxRecDepth 100000 in
theorem law (x : S25) (A4 A5 : Option Addr) (c4 c5 : Nat) (w : World) (hgd : szL [x] ≤ 500 → GoodB x) (h4 : Kd.C (Kd.int .i64) w A4 x.f4.length x.f4) (l4 : x.f4.length ≤ c4) (h5 : Kd.C k25 w A5 x.f5.length x.f5) (l5 : x.f5.length ≤ c5) :
    Calls Try.prog 4 #[.agg #[.int .i64 x.f0, .int .i64 x.f1, .int .i64 x.f2, .int .i64 x.f3, .slice A4 x.f4.length c4, .slice A5 x.f5.length c5]] w fun e w' => e = .returned (.bool true) ∧ Below w.heap.size w w' := by
  have HM := Aside0.mk (Below.refl w.heap.size w)
  have H4 := Aside0.mk h4
  have H5 := Aside0.mk h5
  have L4 := Aside0.mk l4
  have L5 := Aside0.mk l5
  have GG := Aside0.mk hgd
  clear h4 h5 l4 l5 hgd
  obtain ⟨k, hk⟩ := (size_ev _ x (Nat.lt_succ_self _) 500 (by omega)).rounds
  by_cases c : szL [x] ≤ 500
  · have SZ : Aside0 (orielref06_Size.f k x.f0 x.f1 x.f2 x.f3 x.f4 x.f5 500 = some (szL [x] : Int)) := ⟨hk.trans (by rw [show min (szL [x]) (500 + 1) = szL [x] by omega])⟩
    have GD := Aside0.mk (GG.out c)
    have CZ := Aside0.mk c
    have c1 : decide ((szL [x] : Int) > 500) = false := decide_eq_false (by omega)
    have EL : Aside0 ((knL [x] (-1) 0).length = szL [x]) := ⟨kn_len _ _ _⟩
    clear hk c GG
    go_enter Try.func4, Try.ntmps4
    go_upto_region 4 with (first | ((with_reducible refine gate_dst (N := 1) rfl ?_); refine box_event ?hg (N := 1) ?hd (cs := #[.int .i64 x.f0, .int .i64 x.f1, .int .i64 x.f2, .int .i64 x.f3, .slice A4 x.f4.length c4, .slice A5 x.f5.length c5]) (t := 25) ?hr ?_; (case hd => rfl); (case hg => rfl); (case hr => first | (go_simp; done) | (go_simp; rfl)); intro gb hg w1 hbox hb; have BX := Aside0.mk hbox; have n_ := Aside0.mk (Kd.C_below H4.out hb); clear H4; have H4 := n_; clear n_; have n_ := Aside0.mk (Kd.C_below H5.out hb); clear H5; have H5 := n_; clear n_; have n_ := Aside0.mk (below_step (by repeat (first | (with_reducible first | exact HM.out | apply below_alloc | apply pw_below_drewN | apply below_drew1) | exact HM.out)) hb); clear HM; have HM := n_; clear n_; clear hb hbox hg; (try clear y0 y1 y2 y3 y4 y5); obtain ⟨y0, y1, y2, y3, y4, y5⟩ := held6 BX.out) | (go_at_call 14; refine (orielref06_Size.calls k x.f0 x.f1 x.f2 x.f3 A4 c4 x.f4 A5 c5 x.f5 500 _ _ H4.out L4.out H5.out L5.out SZ.out).mono ?_; rintro e w9 ⟨rfl, hb⟩; have n_ := Aside0.mk (Kd.C_below H4.out hb); clear H4; have H4 := n_; clear n_; have n_ := Aside0.mk (Kd.C_below H5.out hb); clear H5; have H5 := n_; clear n_; have n_ := Aside0.mk (blk_below BX.out hb); clear BX; have BX := n_; clear n_; have n_ := Aside0.mk (below_step (by repeat (first | (with_reducible first | exact HM.out | apply below_alloc | apply pw_below_drewN | apply below_drew1) | exact HM.out)) hb); clear HM; have HM := n_; clear n_; clear hb; (try clear y0 y1 y2 y3 y4 y5); obtain ⟨y0, y1, y2, y3, y4, y5⟩ := held6 BX.out) | (go_at_call 9; refine (make_ x A4 A5 c4 c5 _ GD.out (by have := CZ.out; omega) H4.out H5.out).mono ?_; rintro e wT ⟨g, rfl, ht, hb⟩; have TT := Aside0.mk ht; have n_ := Aside0.mk (Kd.C_below H4.out hb); clear H4; have H4 := n_; clear n_; have n_ := Aside0.mk (Kd.C_below H5.out hb); clear H5; have H5 := n_; clear n_; have n_ := Aside0.mk (blk_below BX.out hb); clear BX; have BX := n_; clear n_; have n_ := Aside0.mk (below_step (by repeat (first | (with_reducible first | exact HM.out | apply below_alloc | apply pw_below_drewN | apply below_drew1) | exact HM.out)) hb); clear HM; have HM := n_; clear n_; clear hb ht; clear y0 y1 y2 y3 y4 y5))
    have HT := Aside0.mk (Below.refl wT.heap.size wT)
    go_upto_region 5 with (first | (go_at_call 15; refine (len_ (some ⟨g, 0, none⟩) (knL [x] (-1) 0) (nmL [x]) _ ⟨by rw [nm_len, kn_len], Or.inr ⟨g, rfl, (TT.out.below (by repeat (first | (with_reducible first | exact HT.out | apply below_alloc | apply pw_below_drewN | apply below_drew1) | exact HT.out)))⟩⟩).mono ?_; rintro e w9 ⟨rfl, hb⟩; rw [EL.out]; have n_ := Aside0.mk (below_step (by repeat (first | (with_reducible first | exact HT.out | apply below_alloc | apply pw_below_drewN | apply below_drew1) | exact HT.out)) hb); clear HT; have HT := n_; clear n_; clear hb) | ((with_reducible refine gate_dst (N := 23) rfl ?_); refine Kd.R_make (Kd.int .i64) (w0 := wT) wT.heap.size 3 rfl (N := 23) rfl 22 (.tmp 22) (.tmp 22) rfl (szL [x] : Int) ?hx ?hy Try.underlying22 (.int .i64 0) 8 info3 rfl (by decide) (by omega) 0 (ok := fun _ => True) (okp := fun _ => True) rfl (fun _ hk => hk) trivial (by omega) (by have := CZ.out; omega) (by repeat (first | (with_reducible first | exact HT.out | apply below_alloc | apply pw_below_drewN | apply below_drew1) | exact HT.out)) (below_size (by repeat (first | (with_reducible first | exact HT.out | apply below_alloc | apply pw_below_drewN | apply below_drew1) | exact HT.out))) ?_; (case hx => first | (go_simp; done) | (go_simp; rfl)); (case hy => first | (go_simp; done) | (go_simp; rfl)); intro v4 w4 hr hb4 hg4 ho4; have HS := Aside0.mk hr; clear HT; have HT := Aside0.mk hb4; clear hr hb4 hg4 ho4))
    obtain ⟨gs, cs, ev4, gb4, gl4, cl4, hG4⟩ := Kd.R_form HS.out (by rw [List.length_replicate]; have := szL_one x; omega)
    have n_ : Aside0 (Kd.R (Kd.int .i64) 3 w4 wT.heap.size (fun _ => True) (.slice (some ⟨gs, 0, none⟩) (szL [x]) cs) (cnts (szL [x]) (allK (rwL [x] (-1) 1 0) 0))) := ⟨by have h_ := HS.out; rw [ev4, List.length_replicate, Int.toNat_natCast, ← cnts_nil] at h_; exact h_⟩
    rw [List.length_replicate, Int.toNat_natCast] at ev4
    subst ev4
    have GS := Aside0.mk gb4
    clear HS gb4 gl4 cl4 hG4
    have HS := n_
    clear n_
    have SG := Aside0.mk (Seg.whole x)
    have LR : Aside0 ((rwL [x] (-1) 1 0).length = szL [x]) := ⟨rw_len _ _ _ _⟩
    go_wp2
    go_loopg [26] (szL [x] + 1) (fun kq v26 w' => ∃ (n : Nat) (a : Int), v26 = .int .i64 a ∧ Aside0 (a = (n : Int)) ∧ Aside0 (kq + n = szL [x] + 1 ∧ n ≤ szL [x]) ∧ Aside0 (Kd.R (Kd.int .i64) 3 w' wT.heap.size (fun _ => True) (.slice (some ⟨gs, 0, none⟩) (szL [x]) cs) (cnts (szL [x]) (allK (rwL [x] (-1) 1 0) n))) ∧ Aside0 (Below wT.heap.size wT w'))
    case atStart => exact ⟨0, 0, rfl, ⟨rfl⟩, ⟨⟨by omega, by omega⟩⟩, HS, HT⟩
    case round =>
      clear HS HT
      obtain ⟨n, a, rfl, HE, HK, HS, HT⟩ := hrel
      cases gk with
      | zero => have := HK.out; omega
      | succ k1 =>
        by_cases cc : a < (szL [x] : Int)
        · have c0b : decide (a < (szL [x] : Int)) = true := decide_eq_true cc
          have hn : n < szL [x] := by have := HE.out; omega
          obtain ⟨en, hnode, hszn⟩ := node_at _ [x] (-1) 1 0 (Nat.lt_succ_self _) SG.out n (Nat.zero_le _) (by omega)
          obtain ⟨kl, ekl⟩ : ∃ kl, kpL en.f0.f5 (n + 1) = kl := ⟨_, rfl⟩
          obtain ⟨nx, hkn⟩ := hnode.hk
          have HH : Aside0 (hasB (knL [x] (-1) 0) a = true) := ⟨by rw [HE.out]; exact has_at hkn⟩
          have CK : Aside0 (ChainK (knL [x] (-1) 0) (rd_T39 (knL [x] (-1) 0) a).f5 kl) := ⟨by rw [HE.out, rd39 hkn, ← ekl]; exact chain_ _ _ _ _ hnode.hs⟩
          have KI : Aside0 (idxs (isUp (n : Int)) (rwL [x] (-1) 1 0) 0 = kl) := ⟨by rw [kids_at x hnode.hr, ekl]⟩
          have KL : Aside0 (kl.length ≤ 1000000) := ⟨by rw [← ekl, kpL_len]; have h1_ := len_le_szL en.f0.f5; have h4_ := szL_one en.f0; have h5_ := CZ.out; omega⟩
          have KF : Aside0 (∀ q ∈ kl, ∃ (m : Nat) (k0 k1 k2 k3 k5 k6 : Int), q = (m : Int) ∧ n < m ∧ m < szL [x] ∧ (knL [x] (-1) 0)[m]? = some (⟨k0, k1, k2, k3, a, k5, k6⟩ : S39)) := ⟨fun q hq => by
            rw [← KI.out, mem_idxs] at hq
            obtain ⟨m, e2, h1, h2, h3⟩ := hq
            rw [Nat.zero_add] at h1
            have h4 := (List.getElem?_eq_some_iff.mp h2).1
            rw [LR.out] at h4
            have h5 : e2.f1 = (n : Int) := of_decide_eq_true h3
            have h6 := (upOk_of x m e2 h2).2
            obtain ⟨e3, h7, _⟩ := node_at _ [x] (-1) 1 0 (Nat.lt_succ_self _) SG.out m (Nat.zero_le _) (by omega)
            obtain rfl : e3 = e2 := Option.some.inj (h7.hr.symm.trans h2)
            obtain ⟨nx2, h8⟩ := h7.hk
            rw [h5, ← HE.out] at h8
            exact ⟨m, _, _, _, _, _, _, h1, by omega, h4, h8⟩⟩
          clear hnode ekl hkn cc hszn
          go_wp2_with (first | (go_at_call 16; refine (kids_ (some ⟨g, 0, none⟩) (knL [x] (-1) 0) (nmL [x]) a kl _ ⟨by rw [nm_len, kn_len], Or.inr ⟨g, rfl, (TT.out.below (by repeat (first | (with_reducible first | exact HT.out | apply below_alloc | apply pw_below_drewN | apply below_drew1) | exact HT.out)))⟩⟩ KL.out (fun _ => CK.out) (fun h => absurd (HH.out.symm.trans h) (by decide))).mono ?_; rintro e w6 ⟨v10, rfl, hr10, hb⟩; have lt_ := ((Kd.R_bound HS.out).1 gs rfl).2.2.1; have H10 := Aside0.mk (Kd.R_lower (show Kd.R (Kd.int .i64) 3 w6 _ (fun k_ => k_ ≠ gs) v10 kl from Kd.R_mono (Kd.R_bound hr10) (fun k_ hk_ => by have h1_ := hk_.2.1; omega)) HT.out.size); clear lt_; have n_ := Aside0.mk (Kd.R_below HS.out hb); clear HS; have HS := n_; clear n_; have n_ := Aside0.mk (below_step (by repeat (first | (with_reducible first | exact HT.out | apply below_alloc | apply pw_below_drewN | apply below_drew1) | exact HT.out)) hb); clear HT; have HT := n_; clear n_; clear hr10 hb; obtain ⟨A10, c10, e10⟩ := Kd.R_slice H10.out; subst e10))
          go_loopg [33] (kl.length + 1) (fun kq v33 w' => ∃ (j : Nat) (b : Int), v33 = .int .i64 b ∧ Aside0 (b = (j : Int)) ∧ Aside0 (kq + j = kl.length + 1 ∧ j ≤ kl.length) ∧ Aside0 (Kd.R (Kd.int .i64) 3 w' wT.heap.size (fun _ => True) (.slice (some ⟨gs, 0, none⟩) (szL [x]) cs) (cnts (szL [x]) (allK (rwL [x] (-1) 1 0) n ++ kl.take j))) ∧ Aside0 (Kd.R (Kd.int .i64) 3 w' wT.heap.size (fun k_ => k_ ≠ gs) (.slice A10 kl.length c10) kl) ∧ Aside0 (Below wT.heap.size wT w'))
          case atStart => exact ⟨0, 0, rfl, ⟨rfl⟩, ⟨⟨by omega, by omega⟩⟩, ⟨by rw [List.take_zero, List.append_nil]; exact HS.out⟩, H10, HT⟩
          case round =>
            clear HS HT H10
            obtain ⟨j, b, rfl, HE2, HK2, HS, HR, HT⟩ := hrel
            cases gk with
            | zero => have := HK2.out; omega
            | succ k2 =>
              by_cases cc : b < (kl.length : Int)
              · have c2b : decide (b < (kl.length : Int)) = true := decide_eq_true cc
                have hj : j < kl.length := by have := HE2.out; omega
                have p1 : (0 : Int) ≤ b := by have := HE2.out; omega
                have q1 : b < (kl.length : Int) := cc
                obtain ⟨ax, eax, xk⟩ := Kd.at_int (Kd.R_reads' HR.out).2.2 b p1 q1
                subst eax
                obtain ⟨kk, hkk⟩ : ∃ kk, kl[j]? = some kk := ⟨kl[j], List.getElem?_eq_getElem hj⟩
                have hrd : rd kl b = kk := by unfold rd; rw [HE2.out, Int.toNat_natCast, List.getD_eq_getElem?_getD, hkk]; rfl
                rw [hrd] at xk
                obtain ⟨m, k0, k1_, k2_, k3, k5, k6, em, hnm, hms, hkm⟩ := KF.out kk (List.mem_of_getElem? hkk)
                have TK_ : Aside0 (kl.take (j + 1) = kl.take j ++ [kk]) := ⟨take1 hkk⟩
                have EM := Aside0.mk em
                have KV : Aside0 (knotV (knotF (knL [x] (-1) 0) kk) = .agg #[.int .i64 k0, .int .i64 k1_, .int .i64 k2_, .int .i64 k3, .int .i64 a, .int .i64 k5, .int .i64 k6] ∧ hasB (knL [x] (-1) 0) kk = true) := ⟨by
                  have h_ := has_at hkm
                  unfold knotF
                  rw [em, if_pos h_, rd39 hkm]
                  exact ⟨rfl, h_⟩⟩
                have d1 : decide (kk ≤ a) = false := decide_eq_false (by have := HE.out; omega)
                have d2 : decide (kk ≥ (szL [x] : Int)) = false := decide_eq_false (by omega)
                have ew : wrap64 (b + 1) = b + 1 := wid (by have := HE2.out; omega) (by have := HE2.out; have := KL.out; omega)
                have MS := Aside0.mk hms
                replace p1 := eq_true p1
                replace q1 := eq_true q1
                clear hrd hkk cc em hnm hms hkm
                go_upto_region 12 with (first | (go_at_call 17; refine (knot_ (some ⟨g, 0, none⟩) (knL [x] (-1) 0) (nmL [x]) kk _ ⟨by rw [nm_len, kn_len], Or.inr ⟨g, rfl, (TT.out.below (by repeat (first | (with_reducible first | exact HT.out | apply below_alloc | apply pw_below_drewN | apply below_drew1) | exact HT.out)))⟩⟩).mono ?_; rintro e w7 ⟨rfl, hb⟩; rw [KV.out.1, KV.out.2]; have n_ := Aside0.mk (Kd.R_below HS.out hb); clear HS; have HS := n_; clear n_; have n_ := Aside0.mk (Kd.R_below HR.out hb); clear HR; have HR := n_; clear n_; have n_ := Aside0.mk (below_step (by repeat (first | (with_reducible first | exact HT.out | apply below_alloc | apply pw_below_drewN | apply below_drew1) | exact HT.out)) hb); clear HT; have HT := n_; clear n_; clear hb) | ((with_reducible refine gate_dst (N := 8) rfl ?_); refine box_event ?hg (N := 8) ?hd (cs := #[.int .i64 0, .int .i64 0, .int .i64 0, .int .i64 0, .int .i64 0, .int .i64 0, .int .i64 0]) (t := 39) ?hr ?_; (case hd => rfl); (case hg => rfl); (case hr => first | (go_simp; done) | (go_simp; rfl)); intro g8 hg w8 hbox hb; have B8 := Aside0.mk hbox; have G8 := Aside0.mk ((by rw [hg]; exact (below_size (by repeat (first | (with_reducible first | exact HT.out | apply below_alloc | apply pw_below_drewN | apply below_drew1) | exact HT.out)))) : wT.heap.size ≤ g8); have n_ := Aside0.mk (Kd.R_below HS.out hb); clear HS; have HS := n_; clear n_; have n_ := Aside0.mk (Kd.R_below HR.out hb); clear HR; have HR := n_; clear n_; have n_ := Aside0.mk (below_step (by repeat (first | (with_reducible first | exact HT.out | apply below_alloc | apply pw_below_drewN | apply below_drew1) | exact HT.out)) hb); clear HT; have HT := n_; clear n_; clear hb hbox hg; have z0 : w8.cell? ⟨g8, 0, none⟩ = some (.int .i64 0) := (blk_cell B8.out 0).trans rfl; have f0 := blk_frozen B8.out 0; have z1 : w8.cell? ⟨g8, 1, none⟩ = some (.int .i64 0) := (blk_cell B8.out 1).trans rfl; have f1 := blk_frozen B8.out 1; have z2 : w8.cell? ⟨g8, 2, none⟩ = some (.int .i64 0) := (blk_cell B8.out 2).trans rfl; have f2 := blk_frozen B8.out 2; have z3 : w8.cell? ⟨g8, 3, none⟩ = some (.int .i64 0) := (blk_cell B8.out 3).trans rfl; have f3 := blk_frozen B8.out 3; have z4 : w8.cell? ⟨g8, 4, none⟩ = some (.int .i64 0) := (blk_cell B8.out 4).trans rfl; have f4 := blk_frozen B8.out 4; have z5 : w8.cell? ⟨g8, 5, none⟩ = some (.int .i64 0) := (blk_cell B8.out 5).trans rfl; have f5 := blk_frozen B8.out 5; have z6 : w8.cell? ⟨g8, 6, none⟩ = some (.int .i64 0) := (blk_cell B8.out 6).trans rfl; have f6 := blk_frozen B8.out 6))
                have P0 := B8
                have S0 := HS
                have R0 := HR
                have T0 := HT
                have S1 := Aside0.mk (Kd.R_set S0.out P0.out e39 0 (.int .i64 k0))
                have R1 := Aside0.mk (Kd.R_set R0.out P0.out e39 0 (.int .i64 k0))
                have T1 := Aside0.mk (below_set T0.out G8.out (v := .int .i64 k0) (j := 0))
                have P1 := Aside0.mk (show (w8.setCell ⟨g8, 0, none⟩ (.int .i64 k0)).heap[g8]? = some (.cells #[.int .i64 k0, .int .i64 0, .int .i64 0, .int .i64 0, .int .i64 0, .int .i64 0, .int .i64 0] 39 (0, 0)) from blk_put P0.out 0 (.int .i64 k0) rfl)
                have S2 := Aside0.mk (Kd.R_set S1.out P1.out e39 1 (.int .i64 k1_))
                have R2 := Aside0.mk (Kd.R_set R1.out P1.out e39 1 (.int .i64 k1_))
                have T2 := Aside0.mk (below_set T1.out G8.out (v := .int .i64 k1_) (j := 1))
                have P2 := Aside0.mk (show ((w8.setCell ⟨g8, 0, none⟩ (.int .i64 k0)).setCell ⟨g8, 1, none⟩ (.int .i64 k1_)).heap[g8]? = some (.cells #[.int .i64 k0, .int .i64 k1_, .int .i64 0, .int .i64 0, .int .i64 0, .int .i64 0, .int .i64 0] 39 (0, 0)) from blk_put P1.out 1 (.int .i64 k1_) rfl)
                have S3 := Aside0.mk (Kd.R_set S2.out P2.out e39 2 (.int .i64 k2_))
                have R3 := Aside0.mk (Kd.R_set R2.out P2.out e39 2 (.int .i64 k2_))
                have T3 := Aside0.mk (below_set T2.out G8.out (v := .int .i64 k2_) (j := 2))
                have P3 := Aside0.mk (show (((w8.setCell ⟨g8, 0, none⟩ (.int .i64 k0)).setCell ⟨g8, 1, none⟩ (.int .i64 k1_)).setCell ⟨g8, 2, none⟩ (.int .i64 k2_)).heap[g8]? = some (.cells #[.int .i64 k0, .int .i64 k1_, .int .i64 k2_, .int .i64 0, .int .i64 0, .int .i64 0, .int .i64 0] 39 (0, 0)) from blk_put P2.out 2 (.int .i64 k2_) rfl)
                have S4 := Aside0.mk (Kd.R_set S3.out P3.out e39 3 (.int .i64 k3))
                have R4 := Aside0.mk (Kd.R_set R3.out P3.out e39 3 (.int .i64 k3))
                have T4 := Aside0.mk (below_set T3.out G8.out (v := .int .i64 k3) (j := 3))
                have P4 := Aside0.mk (show ((((w8.setCell ⟨g8, 0, none⟩ (.int .i64 k0)).setCell ⟨g8, 1, none⟩ (.int .i64 k1_)).setCell ⟨g8, 2, none⟩ (.int .i64 k2_)).setCell ⟨g8, 3, none⟩ (.int .i64 k3)).heap[g8]? = some (.cells #[.int .i64 k0, .int .i64 k1_, .int .i64 k2_, .int .i64 k3, .int .i64 0, .int .i64 0, .int .i64 0] 39 (0, 0)) from blk_put P3.out 3 (.int .i64 k3) rfl)
                have S5 := Aside0.mk (Kd.R_set S4.out P4.out e39 4 (.int .i64 a))
                have R5 := Aside0.mk (Kd.R_set R4.out P4.out e39 4 (.int .i64 a))
                have T5 := Aside0.mk (below_set T4.out G8.out (v := .int .i64 a) (j := 4))
                have P5 := Aside0.mk (show (((((w8.setCell ⟨g8, 0, none⟩ (.int .i64 k0)).setCell ⟨g8, 1, none⟩ (.int .i64 k1_)).setCell ⟨g8, 2, none⟩ (.int .i64 k2_)).setCell ⟨g8, 3, none⟩ (.int .i64 k3)).setCell ⟨g8, 4, none⟩ (.int .i64 a)).heap[g8]? = some (.cells #[.int .i64 k0, .int .i64 k1_, .int .i64 k2_, .int .i64 k3, .int .i64 a, .int .i64 0, .int .i64 0] 39 (0, 0)) from blk_put P4.out 4 (.int .i64 a) rfl)
                have S6 := Aside0.mk (Kd.R_set S5.out P5.out e39 5 (.int .i64 k5))
                have R6 := Aside0.mk (Kd.R_set R5.out P5.out e39 5 (.int .i64 k5))
                have T6 := Aside0.mk (below_set T5.out G8.out (v := .int .i64 k5) (j := 5))
                have P6 := Aside0.mk (show ((((((w8.setCell ⟨g8, 0, none⟩ (.int .i64 k0)).setCell ⟨g8, 1, none⟩ (.int .i64 k1_)).setCell ⟨g8, 2, none⟩ (.int .i64 k2_)).setCell ⟨g8, 3, none⟩ (.int .i64 k3)).setCell ⟨g8, 4, none⟩ (.int .i64 a)).setCell ⟨g8, 5, none⟩ (.int .i64 k5)).heap[g8]? = some (.cells #[.int .i64 k0, .int .i64 k1_, .int .i64 k2_, .int .i64 k3, .int .i64 a, .int .i64 k5, .int .i64 0] 39 (0, 0)) from blk_put P5.out 5 (.int .i64 k5) rfl)
                have S7 := Aside0.mk (Kd.R_set S6.out P6.out e39 6 (.int .i64 k6))
                have R7 := Aside0.mk (Kd.R_set R6.out P6.out e39 6 (.int .i64 k6))
                have T7 := Aside0.mk (below_set T6.out G8.out (v := .int .i64 k6) (j := 6))
                have P7 := Aside0.mk (show (((((((w8.setCell ⟨g8, 0, none⟩ (.int .i64 k0)).setCell ⟨g8, 1, none⟩ (.int .i64 k1_)).setCell ⟨g8, 2, none⟩ (.int .i64 k2_)).setCell ⟨g8, 3, none⟩ (.int .i64 k3)).setCell ⟨g8, 4, none⟩ (.int .i64 a)).setCell ⟨g8, 5, none⟩ (.int .i64 k5)).setCell ⟨g8, 6, none⟩ (.int .i64 k6)).heap[g8]? = some (.cells #[.int .i64 k0, .int .i64 k1_, .int .i64 k2_, .int .i64 k3, .int .i64 a, .int .i64 k5, .int .i64 k6] 39 (0, 0)) from blk_put P6.out 6 (.int .i64 k6) rfl)
                clear HS HR HT B8 P0 S0 R0 T0 P1 S1 R1 T1 P2 S2 R2 T2 P3 S3 R3 T3 P4 S4 R4 T4 P5 S5 R5 T5 P6 S6 R6 T6 z0 f0 z1 f1 z2 f2 z3 f3 z4 f4 z5 f5 z6 f6
                generalize (((((((w8.setCell ⟨g8, 0, none⟩ (.int .i64 k0)).setCell ⟨g8, 1, none⟩ (.int .i64 k1_)).setCell ⟨g8, 2, none⟩ (.int .i64 k2_)).setCell ⟨g8, 3, none⟩ (.int .i64 k3)).setCell ⟨g8, 4, none⟩ (.int .i64 a)).setCell ⟨g8, 5, none⟩ (.int .i64 k5)).setCell ⟨g8, 6, none⟩ (.int .i64 k6)) = w9 at S7 R7 T7 P7 ⊢
                have y4 : w9.cell? ⟨g8, 4, none⟩ = some (.int .i64 a) := (blk_cell P7.out 4).trans rfl
                have p3 : (0 : Int) ≤ kk := by have := EM.out; omega
                have q3 : kk < ((szL [x] : Nat) : Int) := by have := EM.out; have := MS.out; omega
                obtain ⟨u0, uf⟩ := Kd.R_celln 0 S7.out kk p3 q3
                have eu : rdOf 0 (cnts (szL [x]) (allK (rwL [x] (-1) 1 0) n ++ kl.take j)) kk = (((allK (rwL [x] (-1) 1 0) n ++ kl.take j).count kk : Nat) : Int) := by
                  unfold rdOf
                  rw [EM.out, Int.toNat_natCast, List.getD_eq_getElem?_getD, cnts_get MS.out]
                  rfl
                have CW : Aside0 ((allK (rwL [x] (-1) 1 0) n ++ kl.take j).count kk ≤ 1000001) := ⟨by
                  obtain ⟨e2, he2⟩ : ∃ e2, (rwL [x] (-1) 1 0)[m]? = some e2 := ⟨_, List.getElem?_eq_getElem (by rw [LR.out]; exact MS.out)⟩
                  rw [EM.out]
                  exact cnt_le he2 n _ (by rw [List.length_take]; have := KL.out; omega)⟩
                rw [eu] at u0
                obtain ⟨cn, hcn⟩ : ∃ cn : Int, (((allK (rwL [x] (-1) 1 0) n ++ kl.take j).count kk : Nat) : Int) = cn := ⟨_, rfl⟩
                rw [hcn] at u0
                have ECN := Aside0.mk hcn
                have ew2 : wrap64 (cn + 1) = cn + 1 := wid (by omega) (by have := CW.out; omega)
                replace u0 : w9.cell? ⟨gs, kk.toNat, none⟩ = some (.int .i64 cn) := u0
                replace p3 := eq_true p3
                replace q3 := eq_true q3
                clear eu hcn
                go_wp2
                have HS8 : Aside0 (Kd.R (Kd.int .i64) 3 (w9.setCell ⟨gs, kk.toNat, none⟩ (.int .i64 (cn + 1))) wT.heap.size (fun _ => True) (.slice (some ⟨gs, 0, none⟩) (szL [x]) cs) (cnts (szL [x]) (allK (rwL [x] (-1) 1 0) n ++ kl.take (j + 1)))) := ⟨by
                  have h_ := Kd.R_putn S7.out kk (cn + 1)
                  rw [← ECN.out, EM.out, Int.toNat_natCast, cnts_snoc MS.out, List.append_assoc, ← EM.out, ← TK_.out] at h_
                  rw [← ECN.out, EM.out, Int.toNat_natCast]
                  rw [EM.out] at h_
                  exact h_⟩
                have HR8 := Aside0.mk (Kd.R_far (p := ⟨gs, kk.toNat, none⟩) R7.out (fun _ h_ => h_) (.int .i64 (cn + 1)))
                have HT8 := Aside0.mk (below_set T7.out GS.out (v := .int .i64 (cn + 1)) (j := kk.toNat))
                go_roundg k2
                case measure => omega
                case rel => exact ⟨j + 1, b + 1, by first | rfl | rw [ew], ⟨by rw [HE2.out]; rfl⟩, ⟨by have := HK2.out; omega⟩, HS8, HR8, HT8⟩
              · have c2b : decide (b < (kl.length : Int)) = false := decide_eq_false cc
                have ej : j = kl.length := by have := HE2.out; have := HK2.out; omega
                have HS8 : Aside0 (Kd.R (Kd.int .i64) 3 wr wT.heap.size (fun _ => True) (.slice (some ⟨gs, 0, none⟩) (szL [x]) cs) (cnts (szL [x]) (allK (rwL [x] (-1) 1 0) (n + 1)))) := ⟨by have h_ := HS.out; rw [ej, List.take_length, ← KI.out] at h_; exact h_⟩
                have ewa : wrap64 (a + 1) = a + 1 := wid (by have := HE.out; omega) (by have := HE.out; have := HK.out; have := CZ.out; omega)
                go_wp2
                go_roundg k1
                case measure => omega
                case rel => exact ⟨n + 1, a + 1, by first | rfl | rw [ewa], ⟨by rw [HE.out]; rfl⟩, ⟨by have := HK.out; omega⟩, HS8, HT⟩
        · have c0b : decide (a < (szL [x] : Int)) = false := decide_eq_false cc
          have en_ : n = szL [x] := by have := HE.out; have := HK.out; omega
          subst en_
          have ON : Aside0 (∀ k : Nat, k < szL [x] → (cnts (szL [x]) (allK (rwL [x] (-1) 1 0) (szL [x]))).getD k 0 = if (1 : Int) < (k : Int) then 1 else (k : Int)) := ⟨fun k hk => by
            rw [List.getD_eq_getElem?_getD, cnts_get hk, Option.getD_some]
            exact all_once x hk⟩
          have HA := HS
          clear HS
          go_wp2
          go_loopg [72] (szL [x] + 1) (fun kq v72 w' => ∃ (j : Nat) (b : Int), v72 = .int .i64 b ∧ Aside0 (b = (j : Int)) ∧ Aside0 (kq + j = szL [x] + 1 ∧ j ≤ szL [x]) ∧ Aside0 (Kd.R (Kd.int .i64) 3 w' wT.heap.size (fun _ => True) (.slice (some ⟨gs, 0, none⟩) (szL [x]) cs) (cnts (szL [x]) (allK (rwL [x] (-1) 1 0) (szL [x])))) ∧ Aside0 (Below wT.heap.size wT w'))
          case atStart => exact ⟨0, 0, rfl, ⟨rfl⟩, ⟨⟨by omega, by omega⟩⟩, HA, HT⟩
          case round =>
            clear HA HT
            obtain ⟨j, b, rfl, HE2, HK2, HS, HT⟩ := hrel
            cases gk with
            | zero => have := HK2.out; omega
            | succ k2 =>
              by_cases cc2 : b < (szL [x] : Int)
              · have c2b : decide (b < (szL [x] : Int)) = true := decide_eq_true cc2
                have hj : j < szL [x] := by have := HE2.out; omega
                have p1 : (0 : Int) ≤ b := by have := HE2.out; omega
                have q1 : b < ((szL [x] : Nat) : Int) := cc2
                obtain ⟨u0, uf⟩ := Kd.R_celln 0 HS.out b p1 q1
                have eu : rdOf 0 (cnts (szL [x]) (allK (rwL [x] (-1) 1 0) (szL [x]))) b = if (1 : Int) < b then 1 else b := by
                  unfold rdOf
                  rw [HE2.out, Int.toNat_natCast]
                  exact ON.out j hj
                rw [eu] at u0
                have ew : wrap64 (b + 1) = b + 1 := wid (by have := HE2.out; omega) (by have := HE2.out; have := CZ.out; omega)
                replace p1 := eq_true p1
                replace q1 := eq_true q1
                by_cases c3 : (1 : Int) < b
                · rw [if_pos c3] at u0
                  replace u0 : wr.cell? ⟨gs, b.toNat, none⟩ = some (.int .i64 1) := u0
                  clear eu cc2
                  go_wp2
                  go_roundg k2
                  case measure => omega
                  case rel => exact ⟨j + 1, b + 1, by first | rfl | rw [ew], ⟨by rw [HE2.out]; rfl⟩, ⟨by have := HK2.out; omega⟩, HS, HT⟩
                · rw [if_neg c3] at u0
                  replace u0 : wr.cell? ⟨gs, b.toNat, none⟩ = some (.int .i64 b) := u0
                  clear eu cc2
                  go_wp2
                  go_roundg k2
                  case measure => omega
                  case rel => exact ⟨j + 1, b + 1, by first | rfl | rw [ew], ⟨by rw [HE2.out]; rfl⟩, ⟨by have := HK2.out; omega⟩, HS, HT⟩
              · have c2b : decide (b < (szL [x] : Int)) = false := decide_eq_false cc2
                have WK : Aside0 (WalkK (knL [x] (-1) 0) [(0 : Int)] (rng 0 (szL [x]))) := ⟨walk_at (Seg.cons SG.out).2.1 (by have := CZ.out; show szL [x] ≤ _; omega)⟩
                have WL : Aside0 ((rng 0 (szL [x])).length = szL [x]) := ⟨by unfold rng; rw [List.length_map, List.length_range']⟩
                have H0 : Aside0 (hasB (knL [x] (-1) 0) 0 = true) := ⟨decide_eq_true (by have := EL.out; have := szL_one x; omega)⟩
                clear cc2
                go_wp2_with (first | (go_at_call 18; refine (walk_ (some ⟨g, 0, none⟩) (knL [x] (-1) 0) (nmL [x]) 0 (rng 0 (szL [x])) _ ⟨by rw [nm_len, kn_len], Or.inr ⟨g, rfl, (TT.out.below (by repeat (first | (with_reducible first | exact HT.out | apply below_alloc | apply pw_below_drewN | apply below_drew1) | exact HT.out)))⟩⟩ (by have := WL.out; have := CZ.out; omega) (fun _ => WK.out) (fun h => absurd (H0.out.symm.trans h) (by decide))).mono ?_; rintro e w6 ⟨v12, rfl, hr12, hb⟩; have H12 := Aside0.mk (Kd.R_lower hr12 HT.out.size); have n_ := Aside0.mk (below_step (by repeat (first | (with_reducible first | exact HT.out | apply below_alloc | apply pw_below_drewN | apply below_drew1) | exact HT.out)) hb); clear HT; have HT := n_; clear n_; clear hr12 hb; obtain ⟨A12, c12, e12⟩ := Kd.R_slice H12.out; rw [WL.out] at e12; subst e12))
                have RG : Aside0 (∀ q : Nat, q < szL [x] → rd (rng 0 (szL [x])) (q : Int) = (q : Int)) := ⟨fun q hq => by
                  unfold rd rng
                  rw [Int.toNat_natCast, List.getD_eq_getElem?_getD, List.getElem?_map, List.getElem?_range' hq, Option.map_some, Option.getD_some]
                  omega⟩
                go_loopg [86] (szL [x] + 1) (fun kq v86 w' => ∃ (j : Nat) (b : Int), v86 = .int .i64 b ∧ Aside0 (b = (j : Int)) ∧ Aside0 (kq + j = szL [x] + 1 ∧ j ≤ szL [x]) ∧ Aside0 (Kd.R (Kd.int .i64) 3 w' wT.heap.size (fun _ => True) (.slice A12 (szL [x]) c12) (rng 0 (szL [x]))) ∧ Aside0 (Below wT.heap.size wT w'))
                case atStart => exact ⟨0, 0, rfl, ⟨rfl⟩, ⟨⟨by omega, by omega⟩⟩, H12, HT⟩
                case round =>
                  clear H12 HT HS
                  obtain ⟨j, b, rfl, HE3, HK3, HR, HT⟩ := hrel
                  cases gk with
                  | zero => have := HK3.out; omega
                  | succ k3 =>
                    by_cases cc3 : b < (szL [x] : Int)
                    · have c3b : decide (b < (szL [x] : Int)) = true := decide_eq_true cc3
                      have hj : j < szL [x] := by have := HE3.out; omega
                      have p1 : (0 : Int) ≤ b := by have := HE3.out; omega
                      have q1 : b < (szL [x] : Int) := cc3
                      obtain ⟨ax, eax, xk⟩ := Kd.at_int (by have h_ := (Kd.R_reads' HR.out).2.2; exact h_) b p1 (by have h_ := WL.out; omega)
                      subst eax
                      have hrd : rd (rng 0 (szL [x])) b = b := by rw [HE3.out]; exact RG.out j hj
                      rw [hrd] at xk
                      have ew : wrap64 (b + 1) = b + 1 := wid (by have := HE3.out; omega) (by have := HE3.out; have := CZ.out; omega)
                      replace p1 := eq_true p1
                      replace q1 := eq_true q1
                      clear hrd cc3
                      go_wp2
                      go_roundg k3
                      case measure => omega
                      case rel => exact ⟨j + 1, b + 1, by first | rfl | rw [ew], ⟨by rw [HE3.out]; rfl⟩, ⟨by have := HK3.out; omega⟩, HR, HT⟩
                    · have c3b : decide (b < (szL [x] : Int)) = false := decide_eq_false cc3
                      clear cc3
                      go_upto_region 30 with (first | fail)
                      refine start_ (n := 16) (S := fun w' => w'.cell? ⟨gb, 0, none⟩ = some (.int .i64 x.f0) ∧ w'.cell? ⟨gb, 1, none⟩ = some (.int .i64 x.f1) ∧ w'.cell? ⟨gb, 2, none⟩ = some (.int .i64 x.f2) ∧ w'.cell? ⟨gb, 3, none⟩ = some (.int .i64 x.f3) ∧ w'.cell? ⟨gb, 4, none⟩ = some (.slice A4 x.f4.length c4) ∧ w'.cell? ⟨gb, 5, none⟩ = some (.slice A5 x.f5.length c5)) (ds := []) #[false, false, false, false, false, false, false, false, false, false, false, false, false, false, false, false] (by kernel_rfl) rfl rfl (held6 (blk_drew (blk_below BX.out HT.out))) (fun hHeld => ?_)
                      have n_ := Aside0.mk (below_drew1 HT.out)
                      clear HT
                      have HT := n_
                      clear n_
                      generalize wr.drew = w20 at HT hHeld ⊢
                      refine pure_ (i := 0) (N := some 95) (v := ?_) (a' := ?_) #[true, false, false, false, false, false, false, false, false, false, false, false, false, false, false, false] rfl rfl (by kernel_rfl) (fun _ _ _ h => h) (Or.inl ⟨by rfl, ?_⟩) ?_ ?_
                      rotate_left
                      · intro w'
                        go_simp
                        with_reducible rfl
                      rotate_left
                      · simp only [Act.put, List.setIfInBounds_toArray, List.set_cons_zero, List.set_cons_succ, i64_w, i32_w]
                        rfl
                      refine pure_ (i := 1) (N := some 96) (v := ?_) (a' := ?_) #[true, true, false, false, false, false, false, false, false, false, false, false, false, false, false, false] rfl rfl (by kernel_rfl) (fun _ _ _ h => h) (Or.inl ⟨by rfl, ?_⟩) ?_ ?_
                      rotate_left
                      · intro w'
                        go_simp
                        with_reducible rfl
                      rotate_left
                      · simp only [Act.put, List.setIfInBounds_toArray, List.set_cons_zero, List.set_cons_succ, i64_w, i32_w]
                        rfl
                      refine pure_ (i := 2) (N := some 97) (v := ?_) (a' := ?_) #[true, true, true, false, false, false, false, false, false, false, false, false, false, false, false, false] rfl rfl (by kernel_rfl) (fun _ _ _ h => h) (Or.inl ⟨by rfl, ?_⟩) ?_ ?_
                      rotate_left
                      · intro w'
                        go_simp
                        with_reducible rfl
                      rotate_left
                      · simp only [Act.put, List.setIfInBounds_toArray, List.set_cons_zero, List.set_cons_succ, i64_w, i32_w]
                        rfl
                      refine one_ (i := 3) (N := some 98) #[true, true, true, true, false, false, false, false, false, false, false, false, false, false, false, false] rfl rfl (by kernel_rfl) (by decide) (fun K hK => ?_)
                      refine goes_ Try.func15 (by kernel_rfl) rfl #[.pointer (some ⟨g, 0, none⟩)] (by rfl) rfl rfl (by (try simp only [List.map_toArray, List.map_cons, List.map_nil]); first | done | rfl) ?_
                      refine (len_ (some ⟨g, 0, none⟩) (knL [x] (-1) 0) (nmL [x]) w20 ⟨by rw [nm_len, kn_len], Or.inr ⟨g, rfl, TT.out.below HT.out⟩⟩).mono ?_
                      rintro e w21 ⟨rfl, hb⟩
                      rw [EL.out]
                      refine ⟨_, rfl, ?_⟩
                      have n_ := Aside0.mk (below_step HT.out hb)
                      clear HT
                      have HT := n_
                      clear n_
                      clear hb
                      refine hK.out _ _ (held6 (blk_below BX.out HT.out)) (fun hHeld => ?_)
                      clear hK K
                      refine norm_ (a' := ?_) ?_ ?_
                      rotate_left
                      · show Act.put _ (some 98) _ = _
                        simp only [Act.put, List.setIfInBounds_toArray, List.set_cons_zero, List.set_cons_succ, i64_w, i32_w]
                        rfl
                      refine pure_ (i := 4) (N := some 99) (v := ?_) (a' := ?_) #[true, true, true, true, true, false, false, false, false, false, false, false, false, false, false, false] rfl rfl (by kernel_rfl) (fun _ _ _ h => h) (Or.inl ⟨by rfl, ?_⟩) ?_ ?_
                      rotate_left
                      · intro w'
                        go_simp
                        with_reducible rfl
                      rotate_left
                      · simp only [Act.put, List.setIfInBounds_toArray, List.set_cons_zero, List.set_cons_succ, i64_w, i32_w]
                        rfl
                      refine pure_ (i := 5) (N := some 100) (v := ?_) (a' := ?_) #[true, true, true, true, true, true, false, false, false, false, false, false, false, false, false, false] rfl rfl (by kernel_rfl) (fun _ _ _ h => h) (Or.inl ⟨by rfl, ?_⟩) ?_ ?_
                      rotate_left
                      · intro w'
                        go_simp
                        with_reducible rfl
                      rotate_left
                      · simp only [Act.put, List.setIfInBounds_toArray, List.set_cons_zero, List.set_cons_succ, i64_w, i32_w]
                        rfl
                      refine pure_ (i := 6) (N := some 101) (v := ?_) (a' := ?_) #[true, true, true, true, true, true, true, false, false, false, false, false, false, false, false, false] rfl rfl (by kernel_rfl) (fun _ _ _ h => h) (Or.inl ⟨by rfl, ?_⟩) ?_ ?_
                      rotate_left
                      · intro w'
                        go_simp
                        with_reducible rfl
                      rotate_left
                      · simp only [Act.put, List.setIfInBounds_toArray, List.set_cons_zero, List.set_cons_succ, i64_w, i32_w]
                        rfl
                      refine take_ (i := 8) (N := some 103) (v := ?_) (a' := ?_) #[true, true, true, true, true, true, true, false, true, false, false, false, false, false, false, false] rfl rfl (by kernel_rfl) (fun _ _ _ h => h) (Or.inl ⟨by rfl, ?_⟩) hHeld ?_ ?_
                      rotate_left
                      · rintro w' ⟨s0, s1, s2, s3, s4, s5⟩
                        go_simp
                        with_reducible rfl
                      rotate_left
                      · simp only [Act.put, List.setIfInBounds_toArray, List.set_cons_zero, List.set_cons_succ, i64_w, i32_w]
                        rfl
                      refine one_ (i := 7) (N := some 102) #[true, true, true, true, true, true, true, true, true, false, false, false, false, false, false, false] rfl rfl (by kernel_rfl) (by decide) (fun K hK => ?_)
                      refine goes_ Try.func15 (by kernel_rfl) rfl #[.pointer (some ⟨g, 0, none⟩)] (by rfl) rfl rfl (by (try simp only [List.map_toArray, List.map_cons, List.map_nil]); first | done | rfl) ?_
                      refine (len_ (some ⟨g, 0, none⟩) (knL [x] (-1) 0) (nmL [x]) w21 ⟨by rw [nm_len, kn_len], Or.inr ⟨g, rfl, TT.out.below HT.out⟩⟩).mono ?_
                      rintro e w22 ⟨rfl, hb⟩
                      rw [EL.out]
                      refine ⟨_, rfl, ?_⟩
                      have n_ := Aside0.mk (below_step HT.out hb)
                      clear HT
                      have HT := n_
                      clear n_
                      clear hb
                      refine hK.out _ _ (held6 (blk_below BX.out HT.out)) (fun hHeld => ?_)
                      clear hK K
                      refine norm_ (a' := ?_) ?_ ?_
                      rotate_left
                      · show Act.put _ (some 102) _ = _
                        simp only [Act.put, List.setIfInBounds_toArray, List.set_cons_zero, List.set_cons_succ, i64_w, i32_w]
                        rfl
                      refine one_ (i := 9) (N := some 104) #[true, true, true, true, true, true, true, true, true, true, false, false, false, false, false, false] rfl rfl (by kernel_rfl) (by decide) (fun K hK => ?_)
                      refine goes_ Try.func14 (by kernel_rfl) rfl #[.agg #[.int .i64 x.f0, .int .i64 x.f1, .int .i64 x.f2, .int .i64 x.f3, .slice A4 x.f4.length c4, .slice A5 x.f5.length c5], .int .i64 500] (by rfl) rfl rfl (by (try simp only [List.map_toArray, List.map_cons, List.map_nil]); first | done | rfl) ?_
                      refine (orielref06_Size.calls k x.f0 x.f1 x.f2 x.f3 A4 c4 x.f4 A5 c5 x.f5 500 _ w22 (Kd.C_below H4.out HT.out) L4.out (Kd.C_below H5.out HT.out) L5.out SZ.out).mono ?_
                      rintro e w23 ⟨rfl, hb⟩
                      refine ⟨_, rfl, ?_⟩
                      have n_ := Aside0.mk (below_step HT.out hb)
                      clear HT
                      have HT := n_
                      clear n_
                      clear hb
                      refine hK.out _ _ (held6 (blk_below BX.out HT.out)) (fun hHeld => ?_)
                      clear hK K
                      refine norm_ (a' := ?_) ?_ ?_
                      rotate_left
                      · show Act.put _ (some 104) _ = _
                        simp only [Act.put, List.setIfInBounds_toArray, List.set_cons_zero, List.set_cons_succ, i64_w, i32_w]
                        rfl
                      refine pure_ (i := 10) (N := some 105) (v := ?_) (a' := ?_) #[true, true, true, true, true, true, true, true, true, true, true, false, false, false, false, false] rfl rfl (by kernel_rfl) (fun _ _ _ h => h) (Or.inl ⟨by rfl, ?_⟩) ?_ ?_
                      rotate_left
                      · intro w'
                        go_simp
                        with_reducible rfl
                      rotate_left
                      · simp only [Act.put, List.setIfInBounds_toArray, List.set_cons_zero, List.set_cons_succ, i64_w, i32_w]
                        rfl
                      refine pure_ (i := 11) (N := some 106) (v := ?_) (a' := ?_) #[true, true, true, true, true, true, true, true, true, true, true, true, false, false, false, false] rfl rfl (by kernel_rfl) (fun _ _ _ h => h) (Or.inl ⟨by rfl, ?_⟩) ?_ ?_
                      rotate_left
                      · intro w'
                        go_simp
                        with_reducible rfl
                      rotate_left
                      · simp only [Act.put, List.setIfInBounds_toArray, List.set_cons_zero, List.set_cons_succ, i64_w, i32_w]
                        rfl
                      refine pure_ (i := 12) (N := some 107) (v := ?_) (a' := ?_) #[true, true, true, true, true, true, true, true, true, true, true, true, true, false, false, false] rfl rfl (by kernel_rfl) (fun _ _ _ h => h) (Or.inl ⟨by rfl, ?_⟩) ?_ ?_
                      rotate_left
                      · intro w'
                        go_simp
                        with_reducible rfl
                      rotate_left
                      · simp only [Act.put, List.setIfInBounds_toArray, List.set_cons_zero, List.set_cons_succ, i64_w, i32_w]
                        rfl
                      refine one_ (i := 13) (N := some 108) #[true, true, true, true, true, true, true, true, true, true, true, true, true, true, false, false] rfl rfl (by kernel_rfl) (by decide) (fun K hK => ?_)
                      refine goes_ Try.func13 (by kernel_rfl) rfl #[] (by rfl) rfl rfl (by (try simp only [List.map_toArray, List.map_cons, List.map_nil]); first | done | rfl) ?_
                      refine (alive w23).mono ?_
                      rintro e w24 ⟨rfl, hb⟩
                      refine ⟨_, rfl, ?_⟩
                      have n_ := Aside0.mk (below_step HT.out hb)
                      clear HT
                      have HT := n_
                      clear n_
                      clear hb
                      refine hK.out _ _ (held6 (blk_below BX.out HT.out)) (fun hHeld => ?_)
                      clear hK K
                      refine norm_ (a' := ?_) ?_ ?_
                      rotate_left
                      · show Act.put _ (some 108) _ = _
                        simp only [Act.put, List.setIfInBounds_toArray, List.set_cons_zero, List.set_cons_succ, i64_w, i32_w]
                        rfl
                      refine pure_ (i := 14) (N := some 109) (v := ?_) (a' := ?_) #[true, true, true, true, true, true, true, true, true, true, true, true, true, true, true, false] rfl rfl (by kernel_rfl) (fun _ _ _ h => h) (Or.inl ⟨by rfl, ?_⟩) ?_ ?_
                      rotate_left
                      · intro w'
                        go_simp
                        with_reducible rfl
                      rotate_left
                      · simp only [Act.put, List.setIfInBounds_toArray, List.set_cons_zero, List.set_cons_succ, i64_w, i32_w]
                        rfl
                      refine pure_ (i := 15) (N := some 2) (v := ?_) (a' := ?_) #[true, true, true, true, true, true, true, true, true, true, true, true, true, true, true, true] rfl rfl (by kernel_rfl) (fun _ _ _ h => h) (Or.inl ⟨by rfl, ?_⟩) ?_ ?_
                      rotate_left
                      · intro w'
                        go_simp
                        with_reducible rfl
                      rotate_left
                      · simp only [Act.put, List.setIfInBounds_toArray, List.set_cons_zero, List.set_cons_succ, i64_w, i32_w]
                        rfl
                      refine done_ (by kernel_rfl) ?_
                      go_wp2
                      go_ret
                      exact ⟨rfl, below_step HM.out HT.out⟩
  · have SZ : Aside0 (orielref06_Size.f k x.f0 x.f1 x.f2 x.f3 x.f4 x.f5 500 = some 501) := ⟨hk.trans (by rw [show min (szL [x]) (500 + 1) = 501 by omega]; rfl)⟩
    clear hk c GG
    go_enter Try.func4, Try.ntmps4
    go_wp2_with (first | ((with_reducible refine gate_dst (N := 1) rfl ?_); refine box_event ?hg (N := 1) ?hd (cs := #[.int .i64 x.f0, .int .i64 x.f1, .int .i64 x.f2, .int .i64 x.f3, .slice A4 x.f4.length c4, .slice A5 x.f5.length c5]) (t := 25) ?hr ?_; (case hd => rfl); (case hg => rfl); (case hr => first | (go_simp; done) | (go_simp; rfl)); intro gb hg w1 hbox hb; have BX := Aside0.mk hbox; have n_ := Aside0.mk (Kd.C_below H4.out hb); clear H4; have H4 := n_; clear n_; have n_ := Aside0.mk (Kd.C_below H5.out hb); clear H5; have H5 := n_; clear n_; have n_ := Aside0.mk (below_step (by repeat (first | (with_reducible first | exact HM.out | apply below_alloc | apply pw_below_drewN | apply below_drew1) | exact HM.out)) hb); clear HM; have HM := n_; clear n_; clear hb hbox hg; (try clear y0 y1 y2 y3 y4 y5); obtain ⟨y0, y1, y2, y3, y4, y5⟩ := held6 BX.out) | (go_at_call 14; refine (orielref06_Size.calls k x.f0 x.f1 x.f2 x.f3 A4 c4 x.f4 A5 c5 x.f5 500 _ _ H4.out L4.out H5.out L5.out SZ.out).mono ?_; rintro e w9 ⟨rfl, hb⟩; have n_ := Aside0.mk (Kd.C_below H4.out hb); clear H4; have H4 := n_; clear n_; have n_ := Aside0.mk (Kd.C_below H5.out hb); clear H5; have H5 := n_; clear n_; have n_ := Aside0.mk (blk_below BX.out hb); clear BX; have BX := n_; clear n_; have n_ := Aside0.mk (below_step (by repeat (first | (with_reducible first | exact HM.out | apply below_alloc | apply pw_below_drewN | apply below_drew1) | exact HM.out)) hb); clear HM; have HM := n_; clear n_; clear hb; (try clear y0 y1 y2 y3 y4 y5); obtain ⟨y0, y1, y2, y3, y4, y5⟩ := held6 BX.out) | (go_at_call 13; refine (alive _).mono ?_; rintro e w9 ⟨rfl, hb⟩; have n_ := Aside0.mk (below_step (by repeat (first | (with_reducible first | exact HM.out | apply below_alloc | apply pw_below_drewN | apply below_drew1) | exact HM.out)) hb); clear HM; have HM := n_; clear n_; clear hb))
    go_ret
    exact ⟨rfl, HM.out⟩
end Go.Proofs.Ytemdnmidhmddlaa.TreeAll
namespace Go.Proofs.Ytemdnmidhmddlaa.PAll
open Go Go.RowKit Go.Proofs.YtemdnmidhmddlaaW.PrintWords
open Classical in
noncomputable def oriellaw06_TreeAll.f (x : S25) : Option Bool := if Tree.GoodB x then some true else none
theorem oriellaw06_TreeAll.calls (x : S25) (A4 : Option Addr) (c4 : Nat) (A5 : Option Addr) (c5 : Nat) (r : Bool) (w : World) (h4 : Kd.C (Kd.int .i64) w A4 x.f4.length x.f4) (l4 : x.f4.length ≤ c4) (h5 : Kd.C k25 w A5 x.f5.length x.f5) (l5 : x.f5.length ≤ c5) (h : oriellaw06_TreeAll.f x = some r) :
    Calls Try.prog 4 #[.agg #[.int .i64 x.f0, .int .i64 x.f1, .int .i64 x.f2, .int .i64 x.f3, .slice A4 x.f4.length c4, .slice A5 x.f5.length c5]] w fun e w' => e = .returned (.bool r) ∧ Below w.heap.size w w' := by
  unfold oriellaw06_TreeAll.f at h
  by_cases c : Tree.GoodB x
  · rw [if_pos c] at h
    injection h with h
    subst h
    exact TreeAll.law x A4 A5 c4 c5 w (fun _ => c) h4 l4 h5 l5
  · rw [if_neg c] at h
    cases h
end Go.Proofs.Ytemdnmidhmddlaa.PAll
