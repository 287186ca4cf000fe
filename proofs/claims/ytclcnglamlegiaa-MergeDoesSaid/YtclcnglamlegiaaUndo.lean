/- Several texts of this session's, one behind the other: what each proves stands ahead of it. -/
import Derived.Test.YtclcnglamlegiaaPMDx0
import Derived.Test.YtclcnglamlegiaaPMDx10
import Derived.Test.YtclcnglamlegiaaTrialB
namespace Go.Proofs.Ytclcnglamlegiaa.Each
open Go Go.RowKit Go.Proofs.YtclcnglamlegiaaW.PrintWords Go.Proofs.YtclcnglamlegiaaW.PrintLast Go.Proofs.YtclcnglamlegiaaW.PrintMore Go.Proofs.Ytclcnglamlegiaa.PMD
set_option linter.unusedVariables false
set_option linter.unusedSimpArgs false
structure TK (T : Nat → Prop) (w w' : World) : Prop where
 sz : w.heap.size ≤ w'.heap.size
 bl : ∀ (g : Nat) (cs : Array Value) (t : Nat), w.heap[g]? = some (.cells cs t (0, 0)) → ¬ T t → w'.heap[g]? = some (.cells cs t (0, 0))
section
variable {T : Nat → Prop} {w w' w1 w2 : World}
theorem TK.refl (T : Nat → Prop) (w : World) : TK T w w := ⟨Nat.le_refl _, fun _ _ _ h _ => h⟩
theorem TK.below (hb : Below w.heap.size w w') : TK T w w' := ⟨hb.size, fun g cs t h _ => (hb.block g (Array.getElem?_eq_some_iff.mp h).1).trans h⟩
theorem TK.trans (h1 : TK T w w1) (h2 : TK T w1 w2) : TK T w w2 := ⟨Nat.le_trans h1.sz h2.sz, fun g cs t h ht => h2.bl g cs t (h1.bl g cs t h ht) ht⟩
theorem TK.set {g : Nat} {cs : Array Value} {t : Nat} (h : TK T w w1) (hg : w1.heap[g]? = some (.cells cs t (0, 0))) (ht : T t) (j : Nat) (v : Value) : TK T w (w1.setCell ⟨g, j, none⟩ v) :=
 ⟨by rw [World.size_setCell]; exact h.sz, fun g2 cs2 t2 h2 ht2 => by
  have h3 := h.bl g2 cs2 t2 h2 ht2
  have hne : g2 ≠ g := by
   rintro rfl
   rw [hg] at h3
   injection h3 with h3
   injection h3 with _ h3 _
   exact ht2 (h3 ▸ ht)
  exact (Below.heap_setCell w1 ⟨g, j, none⟩ v g2 hne).trans h3⟩
theorem TK.new {g j : Nat} {v : Value} (h : TK T w w1) (hg : w.heap.size ≤ g) : TK T w (w1.setCell ⟨g, j, none⟩ v) :=
 ⟨by rw [World.size_setCell]; exact h.sz, fun g2 cs2 t2 h2 ht2 => by
  have hlt := (Array.getElem?_eq_some_iff.mp h2).1
  exact (Below.heap_setCell w1 ⟨g, j, none⟩ v g2 (by show g2 ≠ g; omega)).trans (h.bl g2 cs2 t2 h2 ht2)⟩
theorem TK.grown {v : Value} {e : Nat} (h : TK T w w1) (hty : ∀ k, v.ownBlock = some k → ∃ cells, w1.heap[k]? = some (.cells cells e (0, 0))) (ht : T e) (hg : w1.grownBy w2 v.ownBlock) : TK T w w2 :=
 ⟨Nat.le_trans h.sz hg.size, fun g2 cs2 t2 h2 ht2 => by
  have h3 := h.bl g2 cs2 t2 h2 ht2
  refine (hg.block g2 (Array.getElem?_eq_some_iff.mp h3).1 (fun e2 => ?_)).trans h3
  obtain ⟨cells, hc⟩ := hty g2 e2.symm
  rw [hc] at h3
  injection h3 with h3
  injection h3 with _ h3 _
  exact ht2 (h3 ▸ ht)⟩
theorem R_tk {α : Type} {d : Kd α} {e base : Nat} {ok : Nat → Prop} {v : Value} {xs : List α} (h : d.R e w base ok v xs) (hq : ∀ q, q ∈ e :: d.E → ¬ T q) (ht : TK T w w') : d.R e w' base ok v xs :=
 Kd.R_mono (Kd.R_move (Kd.R_bound h) (fun k hk => by
  obtain ⟨_, _, _, q, hm, cells, hc⟩ := hk
  rw [hc, ht.bl k cells q hc (hq q hm)])) (fun _ hk => hk.1)
end
def came (P : Nat → Prop) (w0 : World) : Kd (List S36) where
 sz := 1
 E := []
 K := fun _ xs cs => ∃ A c, cs = [.slice A xs.length c] ∧ xs.length ≤ c ∧ Kd.F k36 w0 P A xs.length xs
 M := fun _ _ _ xs cs => ∃ A c, cs = [.slice A xs.length c] ∧ xs.length ≤ c ∧ Kd.F k36 w0 P A xs.length xs
 K_len := by
  rintro w x cs ⟨A, c, rfl, _⟩
  rfl
 K_one := by
  rintro w x cs ⟨A, c, rfl, _⟩ u hu
  rw [List.mem_singleton.1 hu]
  rfl
 K_below := fun _ h => h
 K_of_M := fun h => h
 M_mono := fun _ h => h
 M_bound := fun h => h
 M_move := fun _ h => h
 M_lower := fun _ h => h
def KP (P : Nat → Prop) (w0 : World) : Kd (List S36) := Kd.or_ (came P w0) (Kd.slice 36 k36) rfl
section
variable {P : Nat → Prop} {w0 w w' : World} {xs : List S36} {v : Value} {base : Nat} {ok : Nat → Prop}
theorem KP_made (h : Kd.R k36 36 w base ok v xs) : (KP P w0).M w base ok xs [v] := .inr ⟨v, rfl, h⟩
theorem KP_came {A : Option Addr} {c : Nat} (hl : xs.length ≤ c) (h : Kd.F k36 w0 P A xs.length xs) : (KP P w0).M w base ok xs [.slice A xs.length c] := .inl ⟨A, c, rfl, hl, h⟩
theorem KP_read (h : (KP P w0).M w base ok xs [v]) (hb : Below w0.heap.size w0 w) : ∃ A c, v = .slice A xs.length c ∧ xs.length ≤ c ∧ Kd.C k36 w A xs.length xs := by
 rcases h with ⟨A, c, e, hl, hr⟩ | ⟨u, e, hr⟩
 ·injection e with e _
  exact ⟨A, c, e, hl, Kd.C_below (Kd.F_now hr) hb⟩
 ·injection e with e _
  subst e
  obtain ⟨A, c, e, hl, hr⟩ := Kd.R_reads hr
  exact ⟨A, c, e, hl, hr⟩
theorem KP_below (h : (KP P w0).M w base ok xs [v]) (hb : Below w.heap.size w w') : (KP P w0).M w' base ok xs [v] := Kd.M_below h hb
theorem KP_set {g : Nat} {cs : Array Value} {t : Nat} (h : (KP P w0).M w base ok xs [v]) (hg : w.heap[g]? = some (.cells cs t (0, 0))) (ht : 36 ≠ t) (j : Nat) (u : Value) : (KP P w0).M (w.setCell ⟨g, j, none⟩ u) base ok xs [v] := by
 rcases h with h | ⟨u2, e, hr⟩
 ·exact .inl h
 ·exact .inr ⟨u2, e, Kd.R_set hr hg (fun q hq => by rw [show k36.E = [] from rfl, List.mem_singleton] at hq; exact hq ▸ ht) j u⟩
end
end Go.Proofs.Ytclcnglamlegiaa.Each
namespace Go.Proofs.Ytclcnglamlegiaa.Each
open Go Go.RowKit Go.Proofs.YtclcnglamlegiaaW.PrintWords Go.Proofs.YtclcnglamlegiaaW.PrintLast Go.Proofs.YtclcnglamlegiaaW.PrintMore Go.Proofs.Ytclcnglamlegiaa.PMD
attribute [local go_sem] max2_int min2_int max_two min_two max_three min_three max_four min_four   -- for this text's walks alone
attribute [local go_sem high] eqA30
set_option linter.unusedVariables false
set_option linter.unusedSimpArgs false
set_option maxHeartbeats 8000000 in
set_option maxRecDepth 100000 in
theorem each29 (go : Nat) (k : Nat) (P0_ : Nat → Prop) (T : Nat → Prop) (hT30 : ¬ T 30) (hT36 : ¬ T 36) (w0 w : World) (v0 : Value) (l0 : List S36) (A1 : Option Addr) (c1 : Nat) (l1 : List (List S34)) (r1 : List S36) (r2 r3 r4 r5 : Int) (I : Nat → List S36 → World → Prop)
  (hIb : ∀ i xs w w', I i xs w → Below w.heap.size w w' → I i xs w') (hIf : ∀ i xs w g cs j (u : Value), I i xs w → w.heap[g]? = some (.cells cs 30 (0, 0)) → w0.heap.size ≤ g → I i xs (w.setCell ⟨g, j, none⟩ u)) (hI0 : ∀ i xs w, I i xs w → Below w0.heap.size w0 w)
  (hstep : ∀ (i : Nat) (xs : List S36) (L : List S34) (nxt : List S36) (k : Nat) (w : World) (A : Option Addr) (c : Nat) (A' : Option Addr) (c' : Nat), I i xs w → l1[i]? = some L → trial_Apply.f k xs L = some (nxt, 0, 0, 0) → Kd.C k36 w A xs.length xs → xs.length ≤ c → (KP P0_ w0).M w w0.heap.size (fun _ => True) xs [.slice A xs.length c] → Kd.C k34 w A' L.length L → L.length ≤ c' →
   Calls Try.prog 29 #[.slice A xs.length c, .slice A' L.length c', .pointer (some ⟨go, 0, none⟩)] w fun e w' => e = .returned (.tuple #[]) ∧ I (i + 1) nxt w' ∧ TK T w w')
  (hv : (KP P0_ w0).M w w0.heap.size (fun _ => True) l0 [v0]) (hr1 : Kd.C (Kd.slice 34 k34) w0 A1 l1.length l1) (hc1 : l1.length ≤ c1) (hI : I 0 l0 w) (h : merge_each.f k l0 l1 = some (r1, r2, r3, r4, r5)) :
  Calls Try.prog 20 #[v0, .slice A1 l1.length c1, .func (.func 29) #[] #[.pointer (some ⟨go, 0, none⟩)]] w fun e w' => ∃ v0_ : Value, e = .returned (.tuple #[v0_, .int .i64 r2, .agg #[.int .i64 r3, .int .i64 r4, .int .i64 r5]]) ∧ Below w0.heap.size w0 w' ∧ TK T w w' ∧ ((!(r3 == 0) || (!(r4 == 0) || (!(r5 == 0)))) = false → (KP P0_ w0).M w' w0.heap.size (fun _ => True) r1 [v0_] ∧ I l1.length r1 w') := by
 have hu30 := Try.underlying30
 have hl1m : l1.length ≤ 9223372036854775807 := hr1.2.1
 have HV := Aside0.mk hv
 have HR1 := Aside0.mk hr1
 have HC1 := Aside0.mk hc1
 have HI := Aside0.mk hI
 clear hr1 hc1 hv hI
 have HM := Aside0.mk (Below.refl w.heap.size w)
 have H : (merge_each.l0 k l0 l1 (l1.length : Int) 0) = some (r1, r2, r3, r4, r5) := h
 clear h
 have H' := Aside0.mk H
 clear H
 obtain ⟨A0, c0, ev0, hl0, hC0⟩ := KP_read HV.out (hI0 _ _ _ HI.out)
 subst ev0
 clear hC0 hl0
 go_enter Try.func20, Try.ntmps20
 go_wp2_with (first | ((with_reducible refine gate_dst (N := 8) rfl ?_); refine box_event ?hg (N := 8) ?hd (cs := #[.int .i64 0, .int .i64 0, .int .i64 0]) (t := 30) ?hr ?_; (case hd => rfl); (case hg => rfl); (case hr => first | (go_simp; done) | (go_simp; rfl)); intro gb114 hg w3 hbox hb; have n0_ := Aside0.mk (below_step (by repeat (first | (with_reducible first | exact HM.out | apply below_alloc | apply pw_below_drewN | apply below_drew1) | exact HM.out)) hb); have BK114 := Aside0.mk (hbox); clear HM; have HM := n0_; clear n0_; have GE114 := Aside0.mk ((by rw [hg]; exact (below_size (hI0 _ _ _ HI.out))) : w0.heap.size ≤ gb114); have GW114 := Aside0.mk ((by rw [hg]; exact Nat.le_refl _) : w.heap.size ≤ gb114); clear hb hbox hg))
 have HI2 := Aside0.mk (hIb _ _ _ _ HI.out HM.out)
 have HV2 := Aside0.mk (KP_below HV.out HM.out)
 have HT2 := Aside0.mk (TK.below (T := T) HM.out)
 clear HI HV HM
 go_loopg [0, 15] k (fun kq v0 v15 w' => ∃ (x0_1 : List (S36)) (x15_1 : Int) (i : Nat) (x115000_1 : Int) (x115001_1 : Int) (x115002_1 : Int), v15 = .int .i64 x15_1 ∧ Aside0 (merge_each.l0 kq x0_1 l1 (l1.length : Int) x15_1 = some (r1, r2, r3, r4, r5)) ∧ Aside0 (kq ≤ k) ∧ Aside0 ((KP P0_ w0).M w' w0.heap.size (fun _ => True) x0_1 [v0]) ∧ Aside0 (w'.heap[gb114]? = some (.cells #[.int .i64 x115000_1, .int .i64 x115001_1, .int .i64 x115002_1] 30 (0, 0))) ∧ Aside0 (I i x0_1 w') ∧ Aside0 (x15_1 = (i : Int) ∧ i ≤ l1.length) ∧ Aside0 (TK T w w'))
 case atStart => exact ⟨(l0), (0), 0, (0), (0), (0), (by first | rfl | (simp; done) | (simp [*]; done)), H', ⟨Nat.le_refl _⟩, ⟨by first | exact HV2.out | exact KP_below HV2.out (by repeat (first | (with_reducible first | exact Below.refl _ _ | apply below_alloc | apply pw_below_drewN | apply below_drew1)))⟩, ⟨by (with_reducible repeat (first | refine blk_drewN ?_ _ | refine blk_drew ?_ | refine blk_alloc ?_ _)); exact BK114.out⟩, ⟨by first | exact HI2.out | exact hIb _ _ _ _ HI2.out (by repeat (first | (with_reducible first | exact Below.refl _ _ | apply below_alloc | apply pw_below_drewN | apply below_drew1)))⟩, ⟨⟨rfl, Nat.zero_le _⟩⟩, ⟨by first | exact HT2.out | exact HT2.out.trans (TK.below (by repeat (first | (with_reducible first | exact Below.refl _ _ | apply below_alloc | apply pw_below_drewN | apply below_drew1))))⟩⟩
 case round =>
  clear H' HI2 HV2 HT2
  obtain ⟨x0_1, x15_1, i, x115000_1, x115001_1, x115002_1, rfl, HA, HK1, HV, BK114, HI, HL, HT⟩ := hrel
  have HM := Aside0.mk (Below.refl wr.heap.size wr)
  have HB0 := Aside0.mk (hI0 _ _ _ HI.out)
  cases gk with
  | zero => exact absurd HA.out (by simp [merge_each.l0])
  | succ k1 =>
   have H := HA.out
   clear HA
   simp only [merge_each.l0] at H
   by_cases c4 : x15_1 < (l1.length : Int)
   ·rw [if_pos c4] at H
    have c4b0 : decide (x15_1 < (l1.length : Int)) = true := decide_eq_true c4
    have c4n : i < l1.length := by have h_ := HL.out.1; omega
    clear c4
    by_cases c5 : 0 ≤ x15_1
    ·rw [if_pos c5] at H
     have c5b0 : decide (0 ≤ x15_1) = true := decide_eq_true c5
     clear c5
     by_cases c6 : x15_1 < (l1.length : Int)
     ·rw [if_pos c6] at H
      have c6b0 : decide (x15_1 < (l1.length : Int)) = true := decide_eq_true c6
      clear c6
      replace H := Option.bind_eq_some_iff.mp H
      obtain ⟨⟨t116, t119, t120, t121⟩, A70, H⟩ := H
      replace H : (if (!(t119 == 0) || (!(t120 == 0) || (!(t121 == 0)))) = true then (some (([] : List (S36)), x15_1, t119, t120, t121)) else ((merge_Net_1.f x0_1 (rd_L4 l1 x15_1)).bind fun _ => (merge_each.l0 k1 t116 l1 (l1.length : Int) (wrap64 (x15_1 + 1))))) = some (r1, r2, r3, r4, r5) := H
      have A7 := Aside0.mk A70
      clear A70
      have p115 : 0 ≤ (x15_1 : Int) := of_decide_eq_true (by first | (with_reducible assumption) | assumption)
      have q115 : x15_1 < (l1.length : Int) := of_decide_eq_true (by first | (with_reducible assumption) | assumption)
      obtain ⟨ad115, A115_0, c115_0, e115, hx115_0, hl115_0, hi115_0⟩ := at_L4 HR1.out x15_1 p115 q115
      cases e115
      replace hx115_0 := (HB0.out.cell (World.block_lt_of_cell? w0 _ hx115_0)).trans hx115_0
      have HR115_0 := Aside0.mk (Kd.C_below hi115_0 HB0.out)
      have HC115_0 := Aside0.mk hl115_0
      have eL : rd_L4 l1 x15_1 = l1[i] := by
       rw [HL.out.1]
       unfold rd_L4
       rw [List.getD_eq_getElem?_getD, Int.toNat_natCast, List.getElem?_eq_getElem c4n]
       rfl
      have hLi : Aside0 (l1[i]? = some (rd_L4 l1 x15_1)) := ⟨by rw [eL]; exact List.getElem?_eq_getElem c4n⟩
      clear hi115_0 hl115_0 eL
      replace p115 := eq_true p115
      replace q115 := eq_true q115
      obtain ⟨Ao9, co9, eo9, hl9_, hC9_⟩ := KP_read HV.out HB0.out
      have HL9 := Aside0.mk hl9_
      have HC9 := Aside0.mk hC9_
      clear hl9_ hC9_
      subst eo9
      by_cases c8 : (!(t119 == 0) || (!(t120 == 0) || (!(t121 == 0)))) = true
      ·rw [if_pos c8] at H
       have c8b0 : (!(t119 == 0) || (!(t120 == 0) || (!(t121 == 0)))) = true := c8
       have C8 := Aside0.mk c8
       clear c8
       simp only [Option.some.injEq, Prod.mk.injEq] at H
       obtain ⟨rfl, rfl, rfl, rfl, rfl⟩ := H
       go_wp2_with (first | ((with_reducible refine gate_callee (f := 32) rfl ?_); refine goesL_ (some 23) rfl rfl Try.func32 (by kernel_rfl) rfl #[.slice Ao9 x0_1.length co9, .slice A115_0 (rd_L4 l1 x15_1).length c115_0] rfl (by (try simp only [List.map_toArray, List.map_cons, List.map_nil]); first | done | rfl | (simp only [List.length_drop, List.length_take]; rfl)) ?_; (with_reducible refine (trial_Apply.calls k1 _ _ x0_1 _ _ (rd_L4 l1 x15_1) t116 t119 t120 t121 _ ?side1 ?side2 ?side3 ?side4 A7.out).mono ?_); (case side1 => exact Kd.C_below HC9.out (by repeat (first | (with_reducible first | exact HM.out | apply below_alloc | apply pw_below_drewN | apply below_drew1) | exact HM.out))); (case side2 => exact HL9.out); (case side3 => exact Kd.C_below HR115_0.out (by repeat (first | (with_reducible first | exact HM.out | apply below_alloc | apply pw_below_drewN | apply below_drew1) | exact HM.out))); (case side4 => exact HC115_0.out); rintro e w10 ⟨v117, rfl, ho0, hb⟩; refine ⟨_, rfl, ?_⟩; have n0_ := Aside0.mk (below_step (by repeat (first | (with_reducible first | exact HM.out | apply below_alloc | apply pw_below_drewN | apply below_drew1) | exact HM.out)) hb); clear HM; have HM := n0_; clear n0_ hb ho0) | ((with_reducible refine gate_dst (N := 12) rfl ?_); refine box_event ?hg (N := 12) ?hd (cs := #[.int .i64 0, .int .i64 0, .int .i64 0]) (t := 30) ?hr ?_; (case hd => rfl); (case hg => rfl); (case hr => first | (go_simp; done) | (go_simp; rfl)); intro gb122 hg w11 hbox hb; have n0_ := Aside0.mk (below_step (by repeat (first | (with_reducible first | exact HM.out | apply below_alloc | apply pw_below_drewN | apply below_drew1) | exact HM.out)) hb); have GE122 := Aside0.mk ((by rw [hg]; exact (below_size (by repeat (first | (with_reducible first | exact HM.out | apply below_alloc | apply pw_below_drewN | apply below_drew1) | exact HM.out))) : wr.heap.size ≤ gb122)); have BK122 := Aside0.mk (hbox); clear HM; have HM := n0_; clear n0_; have NB114_122 := Aside0.mk (Nat.ne_of_lt (Nat.lt_of_lt_of_le (Array.getElem?_eq_some_iff.mp BK114.out).1 GE122.out) : gb114 ≠ gb122); have NB122_114 := Aside0.mk (Ne.symm NB114_122.out); clear hb hbox hg; have hcz13_0 : w11.cell? ⟨gb122, 0, none⟩ = some (.int .i64 0) := (blk_cell BK122.out 0).trans rfl; have hcz13_1 : w11.cell? ⟨gb122, 1, none⟩ = some (.int .i64 0) := (blk_cell BK122.out 1).trans rfl; have hcz13_2 : w11.cell? ⟨gb122, 2, none⟩ = some (.int .i64 0) := (blk_cell BK122.out 2).trans rfl; have hfz13_0 := blk_frozen BK122.out 0; have hfz13_1 := blk_frozen BK122.out 1; have hfz13_2 := blk_frozen BK122.out 2))
       have n3_ : Aside0 ((((w11.setCell ⟨gb122, 0, none⟩ (.int .i64 t119)).setCell ⟨gb122, 1, none⟩ (.int .i64 t120)).setCell ⟨gb122, 2, none⟩ (.int .i64 t121)).heap[gb122]? = some (.cells #[.int .i64 t119, .int .i64 t120, .int .i64 t121] 30 (0, 0))) := ⟨blk_put (blk_put (blk_put BK122.out 0 _ rfl) 1 _ rfl) 2 _ rfl⟩
       have n4_ : Aside0 (Below wr.heap.size wr (((w11.setCell ⟨gb122, 0, none⟩ (.int .i64 t119)).setCell ⟨gb122, 1, none⟩ (.int .i64 t120)).setCell ⟨gb122, 2, none⟩ (.int .i64 t121))) := ⟨below_set (below_set (below_set HM.out GE122.out) GE122.out) GE122.out⟩
       clear BK122 HM
       generalize (((w11.setCell ⟨gb122, 0, none⟩ (.int .i64 t119)).setCell ⟨gb122, 1, none⟩ (.int .i64 t120)).setCell ⟨gb122, 2, none⟩ (.int .i64 t121)) = w14 at n3_ n4_ ⊢
       have BK122 := n3_
       have HM := n4_
       clear n3_ n4_
       have n3_ := Aside0.mk (blk_drew BK122.out)
       have n4_ := Aside0.mk (below_drew1 HM.out)
       clear BK122 HM
       have BK122 := n3_
       have HM := n4_
       clear n3_ n4_
       refine start_ (n := 5) (S := fun w' => w'.cell? ⟨gb122, 0, none⟩ = some (.int .i64 t119) ∧ w'.cell? ⟨gb122, 1, none⟩ = some (.int .i64 t120) ∧ w'.cell? ⟨gb122, 2, none⟩ = some (.int .i64 t121)) (ds := []) #[false, false, false, false, false] (by kernel_rfl) rfl rfl ⟨(blk_cell BK122.out 0).trans rfl, (blk_cell BK122.out 1).trans rfl, (blk_cell BK122.out 2).trans rfl⟩ (fun hHeld => ?_)
       generalize w14.drew = w15 at BK122 HM hHeld ⊢
       refine pure_ (i := 0) (N := some 29) (v := ?_) (a' := ?_) #[true, false, false, false, false] rfl rfl (by kernel_rfl) (fun _ _ _ h => h) (Or.inl ⟨by rfl, ?_⟩) ?_ ?_
       rotate_left
       ·intro w'
        go_simp
        with_reducible rfl
       rotate_left
       ·simp only [Act.put, List.setIfInBounds_toArray, List.set_cons_zero, List.set_cons_succ, i64_w, i32_w]
        rfl
       refine pure_ (i := 2) (N := some 6) (v := ?_) (a' := ?_) #[true, false, true, false, false] rfl rfl (by kernel_rfl) (fun _ _ _ h => h) (Or.inl ⟨by rfl, ?_⟩) ?_ ?_
       rotate_left
       ·intro w'
        go_simp
        with_reducible rfl
       rotate_left
       ·simp only [Act.put, List.setIfInBounds_toArray, List.set_cons_zero, List.set_cons_succ, i64_w, i32_w]
        rfl
       refine pure_ (i := 3) (N := some 7) (v := ?_) (a' := ?_) #[true, false, true, true, false] rfl rfl (by kernel_rfl) (fun _ _ _ h => h) (Or.inl ⟨by rfl, ?_⟩) ?_ ?_
       rotate_left
       ·intro w'
        go_simp
        with_reducible rfl
       rotate_left
       ·simp only [Act.put, List.setIfInBounds_toArray, List.set_cons_zero, List.set_cons_succ, i64_w, i32_w]
        rfl
       refine take_ (i := 1) (N := some 30) (v := ?_) (a' := ?_) #[true, true, true, true, false] rfl rfl (by kernel_rfl) (fun _ _ _ h => h) (Or.inl ⟨by rfl, ?_⟩) hHeld ?_ ?_
       rotate_left
       ·rintro w' ⟨s0, s1, s2⟩
        go_simp
        with_reducible rfl
       rotate_left
       ·simp only [Act.put, List.setIfInBounds_toArray, List.set_cons_zero, List.set_cons_succ, i64_w, i32_w]
        rfl
       refine one_ (i := 4) (N := none) #[true, true, true, true, true] rfl rfl (by kernel_rfl) (by decide) (fun K hK => ?_)
       have BK114b := Aside0.mk (blk_below BK114.out HM.out)
       have hs16 : w15.cell? ⟨gb114, 0, none⟩ = some (.int .i64 x115000_1) := (blk_cell BK114b.out 0).trans rfl
       have hfs16 := blk_frozen BK114b.out 0
       have hns16_1 := NB122_114.out
       have hms16_1 := NB114_122.out
       have hs17 : w15.cell? ⟨gb114, 1, none⟩ = some (.int .i64 x115001_1) := (blk_cell BK114b.out 1).trans rfl
       have hfs17 := blk_frozen BK114b.out 1
       have hs18 : w15.cell? ⟨gb114, 2, none⟩ = some (.int .i64 x115002_1) := (blk_cell BK114b.out 2).trans rfl
       have hfs18 := blk_frozen BK114b.out 2
       refine skip_ (w1 := ?_) (by rfl) rfl ?_ ?_
       rotate_left
       ·go_simp
        rfl
       refine hK.out _ _ ⟨((cell_far (p := ⟨gb114, _, none⟩) NB122_114.out _).trans (((cell_far (p := ⟨gb114, _, none⟩) NB122_114.out _).trans (((cell_far (p := ⟨gb114, _, none⟩) NB122_114.out _).trans (hHeld.1)))))), ((cell_far (p := ⟨gb114, _, none⟩) NB122_114.out _).trans (((cell_far (p := ⟨gb114, _, none⟩) NB122_114.out _).trans (((cell_far (p := ⟨gb114, _, none⟩) NB122_114.out _).trans (hHeld.2.1)))))), ((cell_far (p := ⟨gb114, _, none⟩) NB122_114.out _).trans (((cell_far (p := ⟨gb114, _, none⟩) NB122_114.out _).trans (((cell_far (p := ⟨gb114, _, none⟩) NB122_114.out _).trans (hHeld.2.2))))))⟩ (fun hHeld => ?_)
       clear hK K
       refine done_ (by kernel_rfl) ?_
       try go_wp2
       refine bodyPost_ret (results_list (rs := [.tmp 6, .tmp 7, .cell 8 30]) rfl (by simp) (.tmp (.tmp (.cell gb114 30 #[.int .i64 t119, .int .i64 t120, .int .i64 t121] (0, 0) _ rfl (blk_put (blk_put (blk_put BK114b.out 0 _ rfl) 1 _ rfl) 2 _ rfl) Try.underlying30 rfl (by kernel_rfl) .nil)))) rfl ?_
       exact ⟨_, by first | rfl | (simp [errW_none, errW_some] <;> rfl) | (simp [*, errW_none, errW_some] <;> rfl), below_set (below_set (below_set (below_step HB0.out HM.out) GE114.out) GE114.out) GE114.out, (((HT.out.trans (TK.below HM.out)).new GW114.out).new GW114.out).new GW114.out, fun h_ => by rw [C8.out] at h_; exact absurd h_ (by decide)⟩
      ·rw [if_neg c8] at H
       have c8b0 : (!(t119 == 0) || (!(t120 == 0) || (!(t121 == 0)))) = false := by simpa using c8
       have z8 : Aside0 (t119 = 0 ∧ t120 = 0 ∧ t121 = 0) := ⟨by have h_ := c8b0; simp at h_; exact h_⟩
       clear c8
       replace H := Option.bind_eq_some_iff.mp H
       obtain ⟨_, A190, H⟩ := H
       replace H : (merge_each.l0 k1 t116 l1 (l1.length : Int) (wrap64 (x15_1 + 1))) = some (r1, r2, r3, r4, r5) := H
       clear A190
       have H' := Aside0.mk H
       clear H
       go_wp2_with (first | ((with_reducible refine gate_callee (f := 32) rfl ?_); refine goesL_ (some 23) rfl rfl Try.func32 (by kernel_rfl) rfl #[.slice Ao9 x0_1.length co9, .slice A115_0 (rd_L4 l1 x15_1).length c115_0] rfl (by (try simp only [List.map_toArray, List.map_cons, List.map_nil]); first | done | rfl | (simp only [List.length_drop, List.length_take]; rfl)) ?_; (with_reducible refine (trial_Apply.calls k1 _ _ x0_1 _ _ (rd_L4 l1 x15_1) t116 t119 t120 t121 _ ?side1 ?side2 ?side3 ?side4 A7.out).mono ?_); (case side1 => exact Kd.C_below HC9.out (by repeat (first | (with_reducible first | exact HM.out | apply below_alloc | apply pw_below_drewN | apply below_drew1) | exact HM.out))); (case side2 => exact HL9.out); (case side3 => exact Kd.C_below HR115_0.out (by repeat (first | (with_reducible first | exact HM.out | apply below_alloc | apply pw_below_drewN | apply below_drew1) | exact HM.out))); (case side4 => exact HC115_0.out); rintro e w10 ⟨v117, rfl, ho0, hb⟩; refine ⟨_, rfl, ?_⟩; have HO118 := Aside0.mk (Kd.R_lower ho0 (below_size (below_step HB0.out (by repeat (first | (with_reducible first | exact HM.out | apply below_alloc | apply pw_below_drewN | apply below_drew1) | exact HM.out))))); have n0_ := Aside0.mk (below_step (by repeat (first | (with_reducible first | exact HM.out | apply below_alloc | apply pw_below_drewN | apply below_drew1) | exact HM.out)) hb); clear HM; have HM := n0_; clear n0_ hb ho0) | ((with_reducible refine gate_dst (N := 12) rfl ?_); refine box_event ?hg (N := 12) ?hd (cs := #[.int .i64 0, .int .i64 0, .int .i64 0]) (t := 30) ?hr ?_; (case hd => rfl); (case hg => rfl); (case hr => first | (go_simp; done) | (go_simp; rfl)); intro gb122 hg w11 hbox hb; have n0_ := Aside0.mk (below_step (by repeat (first | (with_reducible first | exact HM.out | apply below_alloc | apply pw_below_drewN | apply below_drew1) | exact HM.out)) hb); have n1_ := Aside0.mk (Kd.R_below (by (with_reducible repeat (first | apply Kd.R_alloc | apply Kd.R_drewN | apply Kd.R_drew)); exact HO118.out) hb); have GE122 := Aside0.mk ((by rw [hg]; exact (below_size (by repeat (first | (with_reducible first | exact HM.out | apply below_alloc | apply pw_below_drewN | apply below_drew1) | exact HM.out))) : wr.heap.size ≤ gb122)); have BK122 := Aside0.mk (hbox); clear HM HO118; have HM := n0_; have HO118 := n1_; clear n0_ n1_; have NB114_122 := Aside0.mk (Nat.ne_of_lt (Nat.lt_of_lt_of_le (Array.getElem?_eq_some_iff.mp BK114.out).1 GE122.out) : gb114 ≠ gb122); have NB122_114 := Aside0.mk (Ne.symm NB114_122.out); clear hb hbox hg; have hcz13_0 : w11.cell? ⟨gb122, 0, none⟩ = some (.int .i64 0) := (blk_cell BK122.out 0).trans rfl; have hcz13_1 : w11.cell? ⟨gb122, 1, none⟩ = some (.int .i64 0) := (blk_cell BK122.out 1).trans rfl; have hcz13_2 : w11.cell? ⟨gb122, 2, none⟩ = some (.int .i64 0) := (blk_cell BK122.out 2).trans rfl; have hfz13_0 := blk_frozen BK122.out 0; have hfz13_1 := blk_frozen BK122.out 1; have hfz13_2 := blk_frozen BK122.out 2) | (go_at_call 29; have HM2 := Aside0.mk (below_set (below_set (below_set HM.out GE122.out (v := .int .i64 t119) (j := 0)) GE122.out (v := .int .i64 t120) (j := 1)) GE122.out (v := .int .i64 t121) (j := 2)); have HO119 := Aside0.mk (Kd.R_set (Kd.R_set (Kd.R_set HO118.out BK122.out (by decide) 0 (.int .i64 t119)) (blk_put BK122.out 0 _ rfl) (by decide) 1 (.int .i64 t120)) (blk_put (blk_put BK122.out 0 _ rfl) 1 _ rfl) (by decide) 2 (.int .i64 t121)); refine (hstep i x0_1 (rd_L4 l1 x15_1) t116 k1 _ Ao9 co9 A115_0 c115_0 (hIb _ _ _ _ HI.out HM2.out) hLi.out ?aA (Kd.C_below HC9.out HM2.out) HL9.out (KP_below HV.out HM2.out) (Kd.C_below HR115_0.out HM2.out) HC115_0.out).mono ?_; (case aA => have e_ := A7.out; rw [z8.out.1, z8.out.2.1, z8.out.2.2] at e_; exact e_); rintro e w20 ⟨rfl, hI2, htk⟩; have HI3 := Aside0.mk hI2; have HT3 := Aside0.mk ((HT.out.trans (TK.below HM2.out)).trans htk); have HO120 := Aside0.mk (R_tk HO119.out (fun q hq => by rw [show k36.E = [] from rfl, List.mem_singleton] at hq; exact hq ▸ hT36) htk); have BK3 := Aside0.mk (htk.bl _ _ _ (blk_below BK114.out HM2.out) hT30); clear hI2 htk HO118 HO119 HM HM2))
       go_roundg k1
       case measure => have := HK1.out; omega
       case rel => exact ⟨(t116), (wrap64 (x15_1 + 1)), i + 1, (x115000_1), (x115001_1), (x115002_1), (by first | rfl | (simp; done) | (simp [*]; done)), H', ⟨by have := HK1.out; omega⟩, ⟨KP_made (Kd.R_mono HO120.out (fun _ _ => trivial))⟩, ⟨BK3.out⟩, ⟨HI3.out⟩, ⟨by have h1_ := HL.out.1; have h2_ := c4n; have h3_ := hl1m; exact ⟨by unfold wrap64; omega, by omega⟩⟩, ⟨HT3.out⟩⟩
     ·rw [if_neg c6] at H
      exact absurd H (by simp)
    ·rw [if_neg c5] at H
     exact absurd H (by simp)
   ·rw [if_neg c4] at H
    have c4b0 : decide (x15_1 < (l1.length : Int)) = false := decide_eq_false c4
    have ei : i = l1.length := by have h_ := HL.out.1; have h2_ := HL.out.2; omega
    clear c4
    simp only [Option.some.injEq, Prod.mk.injEq] at H
    obtain ⟨rfl, rfl, rfl, rfl, rfl⟩ := H
    have hcz25_0 : wr.cell? ⟨gb114, 0, none⟩ = some (.int .i64 x115000_1) := (blk_cell BK114.out 0).trans rfl
    have hcz25_1 : wr.cell? ⟨gb114, 1, none⟩ = some (.int .i64 x115001_1) := (blk_cell BK114.out 1).trans rfl
    have hcz25_2 : wr.cell? ⟨gb114, 2, none⟩ = some (.int .i64 x115002_1) := (blk_cell BK114.out 2).trans rfl
    have hfz25_0 := blk_frozen BK114.out 0
    have hfz25_1 := blk_frozen BK114.out 1
    have hfz25_2 := blk_frozen BK114.out 2
    go_wp2
    refine bodyPost_ret (results_list (rs := [.tmp 6, .tmp 7, .cell 8 30]) rfl (by simp) (.tmp (.tmp (.cell gb114 30 #[.int .i64 0, .int .i64 0, .int .i64 0] (0, 0) _ rfl (blk_put (blk_put (blk_put BK114.out 0 _ rfl) 1 _ rfl) 2 _ rfl) Try.underlying30 rfl (by kernel_rfl) .nil)))) rfl ?_
    exact ⟨_, by first | rfl | (simp [errW_none, errW_some] <;> rfl) | (simp [*, errW_none, errW_some] <;> rfl), below_set (below_set (below_set HB0.out GE114.out) GE114.out) GE114.out, ((HT.out.new GW114.out).new GW114.out).new GW114.out, fun _ => ⟨KP_set (KP_set (KP_set HV.out BK114.out (by decide) 0 _) (blk_put BK114.out 0 _ rfl) (by decide) 1 _) (blk_put (blk_put BK114.out 0 _ rfl) 1 _ rfl) (by decide) 2 _, ei ▸ hIf _ _ _ _ _ _ _ (hIf _ _ _ _ _ _ _ (hIf _ _ _ _ _ _ _ HI.out BK114.out GE114.out) (blk_put BK114.out 0 _ rfl) GE114.out) (blk_put (blk_put BK114.out 0 _ rfl) 1 _ rfl) GE114.out⟩⟩
end Go.Proofs.Ytclcnglamlegiaa.Each
namespace Go.Proofs.Ytclcnglamlegiaa.Each
open Go Go.RowKit Go.Proofs.YtclcnglamlegiaaW.PrintWords Go.Proofs.YtclcnglamlegiaaW.PrintLast Go.Proofs.YtclcnglamlegiaaW.PrintMore Go.Proofs.Ytclcnglamlegiaa.PMD Go.Proofs.Ytclcnglamlegiaa.Trial
set_option linter.unusedVariables false
set_option linter.unusedSimpArgs false
structure US (w0 w : World) (go : Nat) (vo : Value) (out : List (List S34)) : Prop where
 hO : w.heap[go]? = some (.cells #[vo] 23 (0, 0))
 ho : Kd.R (Kd.slice 34 k34) 27 w w0.heap.size (fun _ => True) vo out
 hb : Below w0.heap.size w0 w
 lo : w0.heap.size ≤ go
def TU (t : Nat) : Prop := t = 23 ∨ t = 27
theorem s34E : (Kd.slice 34 k34).E = [34] := rfl
namespace US
variable {w0 w w1 : World} {go : Nat} {vo : Value} {out : List (List S34)}
theorem below (h : US w0 w go vo out) (hb : Below w.heap.size w w1) : US w0 w1 go vo out :=
 ⟨blk_below h.hO hb, Kd.R_below h.ho hb, below_step h.hb hb, h.lo⟩
theorem inE {t : Nat} (h : t ≠ 27) (h2 : t ≠ 34) : ∀ q, q ∈ 27 :: (Kd.slice 34 k34).E → q ≠ t := fun q hq => by
 rw [s34E] at hq
 rcases List.mem_cons.mp hq with rfl | hq
 ·exact Ne.symm h
 ·rw [List.mem_singleton.mp hq]
  exact Ne.symm h2
theorem far (h : US w0 w go vo out) {g : Nat} {cs : Array Value} (hg : w.heap[g]? = some (.cells cs 30 (0, 0))) (hl : w0.heap.size ≤ g) (j : Nat) (u : Value) : US w0 (w.setCell ⟨g, j, none⟩ u) go vo out :=
 ⟨blk_far h.hO (blk_ne h.hO hg (by decide)) u, Kd.R_set h.ho hg (inE (by decide) (by decide)) j u, below_set h.hb hl, h.lo⟩
end US
theorem uM {w0 w : World} {go : Nat} {vo : Value} {out : List (List S34)} {b : List S34} {v : Value} (h : US w0 w go vo out) (hr : Kd.R k34 34 w w0.heap.size (fun _ => True) v b) : (Kd.slice 34 k34).M w w0.heap.size (fun k => some k ≠ vo.ownBlock) b [v] := by
 cases hg : vo.ownBlock with
 | none => exact (Kd.slice 34 k34).M_mono (fun _ _ => by simp) (Kd.M_row hr)
 | some g =>
  obtain ⟨cells, hcl⟩ := Kd.R_typed h.ho g hg
  exact (Kd.slice 34 k34).M_mono (fun k hk e => hk.2 (Option.some.inj e)) (Kd.M_types (Kd.M_row hr) hcl (fun q hq => by rw [s34E, List.mem_singleton] at hq; rw [hq]; decide))
set_option maxHeartbeats 8000000 in
set_option maxRecDepth 100000 in
theorem ustep (w0 w : World) (go : Nat) (vo : Value) (out : List (List S34)) (k : Nat) (xs : List S36) (A : Option Addr) (c : Nat) (L : List S34) (A' : Option Addr) (c' : Nat) (b : List S34) (z1 z2 z3 : Int) (hS : US w0 w go vo out) (hC : Kd.C k36 w A xs.length xs) (hc : xs.length ≤ c) (hC' : Kd.C k34 w A' L.length L) (hc' : L.length ≤ c') (hA : trial_Back.f k xs L = some (b, z1, z2, z3)) (hn : out.length < 1000000) :
  Calls Try.prog 29 #[.slice A xs.length c, .slice A' L.length c', .pointer (some ⟨go, 0, none⟩)] w fun e w' => e = .returned (.tuple #[]) ∧ ∃ vo2 : Value, US w0 w' go vo2 (out ++ [b]) ∧ TK TU w w' := by
 have hu30 := Try.underlying30
 have H0 := Aside0.mk hS
 have HC := Aside0.mk hC
 have HL := Aside0.mk hc
 have HC' := Aside0.mk hC'
 have HL' := Aside0.mk hc'
 have HA := Aside0.mk hA
 have HN := Aside0.mk hn
 clear hS hC hc hC' hc' hA hn
 have HM := Aside0.mk (Below.refl w.heap.size w)
 go_enter Try.func29, Try.ntmps29
 go_wp2_with (first | ((with_reducible refine gate_callee (f := 30) rfl ?_); refine goesL_ (some 10) rfl rfl Try.func30 (by kernel_rfl) rfl #[.slice A xs.length c, .slice A' L.length c'] rfl (by (try simp only [List.map_toArray, List.map_cons, List.map_nil]); first | done | rfl | (simp only [List.length_drop, List.length_take]; rfl)) ?_; (with_reducible refine (trial_Back.calls k _ _ xs _ _ L b z1 z2 z3 _ ?side1 ?side2 ?side3 ?side4 HA.out).mono ?_); (case side1 => exact Kd.C_below HC.out (by repeat (first | (with_reducible first | exact HM.out | apply below_alloc | apply pw_below_drewN | apply below_drew1) | exact HM.out))); (case side2 => exact HL.out); (case side3 => exact Kd.C_below HC'.out (by repeat (first | (with_reducible first | exact HM.out | apply below_alloc | apply pw_below_drewN | apply below_drew1) | exact HM.out))); (case side4 => exact HL'.out); rintro e w1 ⟨v1, rfl, ho, hb⟩; refine ⟨_, rfl, ?_⟩; obtain ⟨A2, c2, ev2⟩ := Kd.R_slice ho; subst ev2; have HR := Aside0.mk (Kd.R_lower ho (below_size (below_step H0.out.hb (by repeat (first | (with_reducible first | exact HM.out | apply below_alloc | apply pw_below_drewN | apply below_drew1) | exact HM.out))))); have n0_ := Aside0.mk (below_step (by repeat (first | (with_reducible first | exact HM.out | apply below_alloc | apply pw_below_drewN | apply below_drew1) | exact HM.out)) hb); clear HM; have HM := n0_; clear n0_ ho hb) | ((with_reducible refine gate_dst (N := 6) rfl ?_); refine box_event ?hg (N := 6) ?hd (cs := #[.int .i64 0, .int .i64 0, .int .i64 0]) (t := 30) ?hr ?_; (case hd => rfl); (case hg => rfl); (case hr => first | (go_simp; done) | (go_simp; rfl)); intro g6 hg w2 hbox hb; have n0_ := Aside0.mk (below_step (by repeat (first | (with_reducible first | exact HM.out | apply below_alloc | apply pw_below_drewN | apply below_drew1) | exact HM.out)) hb); have n1_ := Aside0.mk (Kd.R_below (by (with_reducible repeat (first | apply Kd.R_alloc | apply Kd.R_drewN | apply Kd.R_drew)); exact HR.out) hb); have GE6 := Aside0.mk ((by rw [hg]; exact (below_size (by repeat (first | (with_reducible first | exact HM.out | apply below_alloc | apply pw_below_drewN | apply below_drew1) | exact HM.out))) : w.heap.size ≤ g6)); have BK6 := Aside0.mk hbox; clear HM HR; have HM := n0_; have HR := n1_; clear n0_ n1_ hb hbox hg; have hcz13_0 : w2.cell? ⟨g6, 0, none⟩ = some (.int .i64 0) := (blk_cell BK6.out 0).trans rfl; have hcz13_1 : w2.cell? ⟨g6, 1, none⟩ = some (.int .i64 0) := (blk_cell BK6.out 1).trans rfl; have hcz13_2 : w2.cell? ⟨g6, 2, none⟩ = some (.int .i64 0) := (blk_cell BK6.out 2).trans rfl; have hfz13_0 := blk_frozen BK6.out 0; have hfz13_1 := blk_frozen BK6.out 1; have hfz13_2 := blk_frozen BK6.out 2; have HM2 := Aside0.mk (below_set (below_set (below_set HM.out GE6.out (v := .int .i64 z1) (j := 0)) GE6.out (v := .int .i64 z2) (j := 1)) GE6.out (v := .int .i64 z3) (j := 2)); have R1 := Aside0.mk (Kd.R_set (Kd.R_set (Kd.R_set HR.out BK6.out (by decide) 0 (.int .i64 z1)) (blk_put BK6.out 0 _ rfl) (by decide) 1 (.int .i64 z2)) (blk_put (blk_put BK6.out 0 _ rfl) 1 _ rfl) (by decide) 2 (.int .i64 z3)); have H1 := Aside0.mk (H0.out.below HM2.out); have T1 := Aside0.mk (TK.below (T := TU) HM2.out); have hgo : go < w.heap.size := (Array.getElem?_eq_some_iff.mp H0.out.hO).1; have hnb := Nat.ne_of_gt (Nat.lt_of_lt_of_le hgo GE6.out); have hnc := Nat.ne_of_lt (Nat.lt_of_lt_of_le hgo GE6.out); have hcg : w2.cell? ⟨go, 0, none⟩ = some vo := (blk_cell (H0.out.below HM.out).hO 0).trans rfl; have HP2 := Aside0.mk (uM H1.out R1.out); clear HM HR BK6 HM2 R1 hgo) | ((with_reducible refine gate_builtin (b := .append) (xs := #[.tmp 13, .tmp 15]) rfl ?_); at_builtin; refine Kd.R_append (Kd.slice 34 k34) (w0 := w0) w0.heap.size rfl (.tmp 13) (.tmp 15) 23 27 (.slice none 0 0) 24 rfl Try.underlying23 info27 rfl (show 0 < (Kd.slice 34 k34).sz from Nat.one_pos) (by omega) vo out b [.slice A2 b.length c2] (fun _ => True) (fun k => some k ≠ vo.ownBlock) rfl (by first | (go_simp; done) | (go_simp; rfl)) ?aP (fun _ hk => ⟨trivial, hk⟩) ?aF ?aO ?aB ?aS ?aL ?_; (case aP => exact HP2.out); (case aF => exact (fun _ _ => trivial)); (case aO => exact H1.out.ho); (case aB => exact H1.out.hb); (case aS => exact H1.out.hb.size); (case aL => have := HN.out; omega); intro v3 w5 ho3 hb3 hg3 hat3; have O3 := blk_grown H1.out.hO hg3 (Kd.R_ne H1.out.ho H1.out.hO (by decide)); have T3 := Aside0.mk (T1.out.grown (Kd.R_typed H1.out.ho) (.inr rfl) hg3); have H3 : Aside0 (US w0 (w5.setCell ⟨go, 0, none⟩ v3) go v3 (out ++ [b])) := ⟨⟨blk_put O3 0 v3 rfl, Kd.R_set ho3 O3 (US.inE (by decide) (by decide)) 0 v3, below_set hb3 H1.out.lo, H1.out.lo⟩⟩; have T4 := Aside0.mk (T3.out.set O3 (.inl rfl) 0 v3); have o3 := (blk_cell O3 0).trans rfl; have f3 := blk_frozen O3 0; obtain ⟨A3_, c3_, ev_⟩ := Kd.R_slice ho3; subst ev_; rw [List.length_append, List.length_singleton] at H3 T4; clear HP2 H1 T1 T3 ho3 hb3 hg3 hat3 O3))
 go_end0
 exact ⟨rfl, _, H3.out, T4.out⟩
end Go.Proofs.Ytclcnglamlegiaa.Each
namespace Go.Proofs.Ytclcnglamlegiaa.Each
open Go Go.RowKit Go.Proofs.YtclcnglamlegiaaW.PrintWords Go.Proofs.YtclcnglamlegiaaW.PrintLast Go.Proofs.YtclcnglamlegiaaW.PrintMore Go.Proofs.Ytclcnglamlegiaa.PMD Go.Proofs.Ytclcnglamlegiaa.Trial
set_option linter.unusedVariables false
set_option linter.unusedSimpArgs false
def RevI {α : Type} (xs : List α) (i : Nat) (ys : List α) : Prop :=
 ys.length = xs.length ∧ ∀ q, ys[q]? = if q < i ∨ (xs.length - i ≤ q ∧ q < xs.length) then xs[xs.length - 1 - q]? else xs[q]?
theorem rev0 {α : Type} (xs : List α) : RevI xs 0 xs := ⟨rfl, fun q => by rw [if_neg (by omega)]⟩
theorem rev_end {α : Type} {xs ys : List α} {i : Nat} (h : RevI xs i ys) (hi : ¬ ((i : Int) < (xs.length : Int) - 1 - (i : Int))) (h2 : 2 * i ≤ xs.length) : ys = xs.reverse := by
 apply List.ext_getElem?
 intro q
 rw [h.2 q]
 by_cases hq : q < xs.length
 ·rw [List.getElem?_reverse hq]
  by_cases c : q < i ∨ (xs.length - i ≤ q ∧ q < xs.length)
  ·rw [if_pos c]
  ·rw [if_neg c, show xs.length - 1 - q = q by omega]
 ·rw [if_neg (by omega), List.getElem?_eq_none (by omega), List.getElem?_eq_none (by rw [List.length_reverse]; omega)]
theorem rev_step {α : Type} {xs ys : List α} {i : Nat} (z : α) (h : RevI xs i ys) (hi : (i : Int) < (xs.length : Int) - 1 - (i : Int)) :
  RevI xs (i + 1) ((ys.set i (ys.getD (xs.length - 1 - i) z)).set (xs.length - 1 - i) (ys.getD i z)) := by
 obtain ⟨hl, h⟩ := h
 refine ⟨by rw [List.length_set, List.length_set, hl], fun q => ?_⟩
 have e1 : ys.getD (xs.length - 1 - i) z = xs.getD (xs.length - 1 - i) z := by
  rw [List.getD_eq_getElem?_getD, List.getD_eq_getElem?_getD, h, if_neg (by omega)]
 have e2 : ys.getD i z = xs.getD i z := by
  rw [List.getD_eq_getElem?_getD, List.getD_eq_getElem?_getD, h, if_neg (by omega)]
 rw [e1, e2, List.getElem?_set, List.length_set, hl]
 by_cases c1 : xs.length - 1 - i = q
 ·subst c1
  rw [if_pos rfl, if_pos (by omega), if_pos (by omega), show xs.length - 1 - (xs.length - 1 - i) = i by omega, List.getD_eq_getElem?_getD, List.getElem?_eq_getElem (by omega)]
  rfl
 ·rw [if_neg c1, List.getElem?_set, hl]
  by_cases c2 : i = q
  ·subst c2
   rw [if_pos rfl, if_pos (by omega), if_pos (by omega), List.getD_eq_getElem?_getD, List.getElem?_eq_getElem (by omega)]
   rfl
  ·rw [if_neg c2, h]
   by_cases c3 : q < i ∨ (xs.length - i ≤ q ∧ q < xs.length)
   ·rw [if_pos c3, if_pos (by omega)]
   ·rw [if_neg c3, if_neg (by omega)]
theorem gdrew (w : World) (row : Option Nat) : w.grownBy w.drew row := ⟨rfl, rfl, rfl, Nat.le_refl _, fun _ _ _ => rfl⟩
theorem swapR {w : World} {base g c n : Nat} {ys : List (List S34)} {A1 A2 : Option Addr} {n1 n2 c1 c2 : Nat} (h : Kd.R (Kd.slice 34 k34) 27 w base (fun _ => True) (.slice (some ⟨g, 0, none⟩) n c) ys) (i j : Int) (p1 : 0 ≤ i) (q1 : i < n) (p2 : 0 ≤ j) (q2 : j < n)
  (h1 : Kd.R k34 34 w base (fun k => True ∧ k ≠ g) (.slice A1 n1 c1) (ys.getD i.toNat [])) (h2 : Kd.R k34 34 w base (fun k => True ∧ k ≠ g) (.slice A2 n2 c2) (ys.getD j.toNat [])) :
  Kd.R (Kd.slice 34 k34) 27 ((w.setCell ⟨g, i.toNat, none⟩ (.slice A2 n2 c2)).setCell ⟨g, j.toNat, none⟩ (.slice A1 n1 c1)) base (fun _ => True) (.slice (some ⟨g, 0, none⟩) n c) ((ys.set i.toNat (ys.getD j.toNat [])).set j.toNat (ys.getD i.toNat [])) ∧
  w.grownBy ((w.setCell ⟨g, i.toNat, none⟩ (.slice A2 n2 c2)).setCell ⟨g, j.toNat, none⟩ (.slice A1 n1 c1)) (some g) := by
 have key : ∀ (w : World) (ys : List (List S34)) (i : Int) (v : Value) (x : List S34), Kd.R (Kd.slice 34 k34) 27 w base (fun _ => True) (.slice (some ⟨g, 0, none⟩) n c) ys → 0 ≤ i → i < n → Kd.R k34 34 w base (fun k => True ∧ k ≠ g) v x →
   Kd.R (Kd.slice 34 k34) 27 (w.setCell ⟨g, i.toNat, none⟩ v) base (fun _ => True) (.slice (some ⟨g, 0, none⟩) n c) (ys.set i.toNat x) ∧ w.grownBy (w.setCell ⟨g, i.toNat, none⟩ v) (some g) := by
  intro w ys i v x h p q hx
  obtain ⟨ce, hl, hM, hc, hf⟩ := Kd.R_elem h [] i p q
  obtain ⟨v', rfl, _⟩ := hM
  have r := Kd.R_seg h i p q (seg := [v]) (j := 0) hl hc (show 1 ≤ 1 from Nat.le_refl 1) (x' := x) (okp := fun k => True ∧ k ≠ g) (Kd.M_row hx) (fun _ hk => hk)
  rw [show (Kd.slice 34 k34).sz = 1 from rfl, Nat.mul_one, Nat.add_zero] at r
  exact r
 obtain ⟨r1, g1⟩ := key w ys i _ _ h p1 q1 h2
 obtain ⟨r2, g2⟩ := key _ _ j _ _ r1 p2 q2 (Kd.R_far (p := ⟨g, i.toNat, none⟩) h1 (fun k hk => hk.2) (.slice A2 n2 c2))
 exact ⟨r2, g1.trans g2⟩
set_option maxHeartbeats 8000000 in
set_option maxRecDepth 100000 in
theorem urev (w0 w : World) (A : Option Addr) (c : Nat) (xs : List (List S34)) (hR : Kd.R (Kd.slice 34 k34) 27 w w0.heap.size (fun _ => True) (.slice A xs.length c) xs) (hB : Below w0.heap.size w0 w) (hn : xs.length ≤ 1000000) :
  Calls Try.prog 31 #[.slice A xs.length c] w fun e w' => e = .returned (.tuple #[]) ∧ Kd.R (Kd.slice 34 k34) 27 w' w0.heap.size (fun _ => True) (.slice A xs.length c) xs.reverse ∧ Below w0.heap.size w0 w' ∧ w.grownBy w' (Value.slice A xs.length c).ownBlock := by
 have HR := Aside0.mk hR
 have HB := Aside0.mk hB
 have HN := Aside0.mk hn
 clear hR hB hn
 have HG := Aside0.mk (World.grownBy.refl w (Value.slice A xs.length c).ownBlock)
 go_enter Try.func31, Try.ntmps31
 go_wp2
 go_loopg [2, 3] (xs.length + 1) (fun kq v2 v3 w' => ∃ (i : Nat) (a b : Int) (ys : List (List S34)), v2 = .int .i64 a ∧ v3 = .int .i64 b ∧ Aside0 (a = (i : Int) ∧ b = (xs.length : Int) - 1 - (i : Int)) ∧ Aside0 (kq + i = xs.length + 1 ∧ 2 * i ≤ xs.length) ∧ Aside0 (RevI xs i ys) ∧ Aside0 (Kd.R (Kd.slice 34 k34) 27 w' w0.heap.size (fun _ => True) (.slice A xs.length c) ys) ∧ Aside0 (Below w0.heap.size w0 w') ∧ Aside0 (w.grownBy w' (Value.slice A xs.length c).ownBlock))
 case atStart => exact ⟨0, 0, (xs.length : Int) - 1, xs, rfl, by rw [wid (x := (xs.length : Int) - 1) (by omega) (by have := HN.out; omega)], ⟨⟨rfl, by simp⟩⟩, ⟨⟨by omega, by omega⟩⟩, ⟨rev0 xs⟩, HR, HB, HG⟩
 case round =>
  clear HR HB HG
  obtain ⟨i, a, b, ys, rfl, rfl, HE, HK, HI, HR, HB, HG⟩ := hrel
  cases gk with
  | zero => have := HK.out; omega
  | succ k1 =>
   by_cases c4 : a < b
   ·have c4b0 : decide (a < b) = true := decide_eq_true c4
    have hl := HI.out.1
    have ea : Aside0 (a.toNat = i) := ⟨by have := HE.out; omega⟩
    have eb : Aside0 (b.toNat = xs.length - 1 - i) := ⟨by have := HE.out; omega⟩
    have c4n : (i : Int) < (xs.length : Int) - 1 - (i : Int) := by have := HE.out; omega
    have ew1 : wrap64 (a + 1) = a + 1 := wid (by have := HE.out; omega) (by have := HE.out; have := HN.out; omega)
    have ew2 : wrap64 (b - 1) = b - 1 := wid (by have := HE.out; omega) (by have := HE.out; have := HN.out; omega)
    have HR' : Kd.R (Kd.slice 34 k34) 27 wr w0.heap.size (fun _ => True) (.slice A ys.length c) ys := by rw [hl]; exact HR.out
    obtain ⟨g, cap, eg, gb, gl, _⟩ := Kd.R_form HR' (by omega)
    injection eg with ea _ ec
    subst ea
    subst ec
    have p1 : (0 : Int) ≤ a := by have := HE.out; omega
    have q1 : a < (xs.length : Int) := by have := HE.out; omega
    have p2 : (0 : Int) ≤ b := by have := HE.out; omega
    have q2 : b < (xs.length : Int) := by have := HE.out; omega
    obtain ⟨ce1, hl1, hM1, hc1, hf1⟩ := Kd.R_elem HR.out [] a p1 q1
    obtain ⟨v1, rfl, hR1⟩ := hM1
    obtain ⟨ce2, hl2, hM2, hc2, hf2⟩ := Kd.R_elem HR.out [] b p2 q2
    obtain ⟨v2, rfl, hR2⟩ := hM2
    have hx1 := hc1 0 _ rfl
    have hx2 := hc2 0 _ rfl
    obtain ⟨y1, hy1⟩ : ∃ y, ys.getD a.toNat [] = y := ⟨_, rfl⟩
    obtain ⟨y2, hy2⟩ : ∃ y, ys.getD b.toNat [] = y := ⟨_, rfl⟩
    rw [hy1] at hR1
    rw [hy2] at hR2
    have Hy1 := Aside0.mk hy1
    have Hy2 := Aside0.mk hy2
    clear hy1 hy2
    obtain ⟨A1_, c1_, ev1⟩ := Kd.R_slice hR1
    subst ev1
    obtain ⟨A2_, c2_, ev2⟩ := Kd.R_slice hR2
    subst ev2
    have hne : a.toNat ≠ b.toNat := by have := HE.out; omega
    have hne' := Ne.symm hne
    rw [show (Kd.slice 34 k34).sz = 1 from rfl, Nat.mul_one, Nat.add_zero] at hx1 hx2
    have hg1 := hf1 0
    have hg2 := hf2 0
    rw [show (Kd.slice 34 k34).sz = 1 from rfl, Nat.mul_one, Nat.add_zero] at hg1 hg2
    replace p1 := eq_true p1
    replace q1 := eq_true q1
    replace p2 := eq_true p2
    replace q2 := eq_true q2
    go_wp2
    refine start_ (n := 16) (S := fun w' => w'.cell? ⟨g, a.toNat, none⟩ = some (.slice A1_ y1.length c1_) ∧ w'.cell? ⟨g, b.toNat, none⟩ = some (.slice A2_ y2.length c2_)) (ds := [13, 15]) #[false, false, false, false, false, false, false, false, false, false, false, false, false, false, false, false] (by kernel_rfl) rfl rfl ⟨hx1, hx2⟩ (fun hHeld => ?_)
    have n0_ := Aside0.mk (Kd.R_drew HR.out)
    have n1_ := Aside0.mk (below_drew1 HB.out)
    have n2_ := Aside0.mk (HG.out.trans (gdrew wr _))
    replace hR1 := Kd.R_drew hR1
    replace hR2 := Kd.R_drew hR2
    have f1 : wr.drew.frozen? ⟨g, a.toNat, none⟩ = false := hg1
    have f2 : wr.drew.frozen? ⟨g, b.toNat, none⟩ = false := hg2
    clear HR HB HG HR' hx1 hx2 hg1 hg2 hc1 hc2 hf1 hf2 hl1 hl2 gl
    have HR := n0_
    have HB := n1_
    have HG := n2_
    clear n0_ n1_ n2_
    generalize wr.drew = w1 at HR HB HG hR1 hR2 f1 f2 hHeld ⊢
    have hx1 := hHeld.1
    have hx2 := hHeld.2
    refine pure_ (i := 0) (N := some 14) (v := ?_) (a' := ?_) #[true, false, false, false, false, false, false, false, false, false, false, false, false, false, false, false] rfl rfl (by kernel_rfl) (fun _ _ _ h => h) (Or.inl ⟨by rfl, ?_⟩) ?_ ?_
    rotate_left
    ·intro w'
     go_simp
     with_reducible rfl
    rotate_left
    ·simp only [Act.put, List.setIfInBounds_toArray, List.set_cons_zero, List.set_cons_succ, i64_w, i32_w]
     rfl
    refine pure_ (i := 1) (N := some 15) (v := ?_) (a' := ?_) #[true, true, false, false, false, false, false, false, false, false, false, false, false, false, false, false] rfl rfl (by kernel_rfl) (fun _ _ _ h => h) (Or.inl ⟨by rfl, ?_⟩) ?_ ?_
    rotate_left
    ·intro w'
     go_simp
     with_reducible rfl
    rotate_left
    ·simp only [Act.put, List.setIfInBounds_toArray, List.set_cons_zero, List.set_cons_succ, i64_w, i32_w]
     rfl
    refine pure_ (i := 2) (N := some 16) (v := ?_) (a' := ?_) #[true, true, true, false, false, false, false, false, false, false, false, false, false, false, false, false] rfl rfl (by kernel_rfl) (fun _ _ _ h => h) (Or.inl ⟨by rfl, ?_⟩) ?_ ?_
    rotate_left
    ·intro w'
     go_simp
     with_reducible rfl
    rotate_left
    ·simp only [Act.put, List.setIfInBounds_toArray, List.set_cons_zero, List.set_cons_succ, i64_w, i32_w]
     rfl
    refine pure_ (i := 3) (N := some 17) (v := ?_) (a' := ?_) #[true, true, true, true, false, false, false, false, false, false, false, false, false, false, false, false] rfl rfl (by kernel_rfl) (fun _ _ _ h => h) (Or.inl ⟨by rfl, ?_⟩) ?_ ?_
    rotate_left
    ·intro w'
     go_simp
     with_reducible rfl
    rotate_left
    ·simp only [Act.put, List.setIfInBounds_toArray, List.set_cons_zero, List.set_cons_succ, i64_w, i32_w]
     rfl
    refine pure_ (i := 4) (N := some 18) (v := ?_) (a' := ?_) #[true, true, true, true, true, false, false, false, false, false, false, false, false, false, false, false] rfl rfl (by kernel_rfl) (fun _ _ _ h => h) (Or.inl ⟨by rfl, ?_⟩) ?_ ?_
    rotate_left
    ·intro w'
     go_simp
     with_reducible rfl
    rotate_left
    ·simp only [Act.put, List.setIfInBounds_toArray, List.set_cons_zero, List.set_cons_succ, i64_w, i32_w]
     rfl
    refine pure_ (i := 5) (N := some 19) (v := ?_) (a' := ?_) #[true, true, true, true, true, true, false, false, false, false, false, false, false, false, false, false] rfl rfl (by kernel_rfl) (fun _ _ _ h => h) (Or.inl ⟨by rfl, ?_⟩) ?_ ?_
    rotate_left
    ·intro w'
     go_simp
     with_reducible rfl
    rotate_left
    ·simp only [Act.put, List.setIfInBounds_toArray, List.set_cons_zero, List.set_cons_succ, i64_w, i32_w]
     rfl
    refine pure_ (i := 6) (N := some 20) (v := ?_) (a' := ?_) #[true, true, true, true, true, true, true, false, false, false, false, false, false, false, false, false] rfl rfl (by kernel_rfl) (fun _ _ _ h => h) (Or.inl ⟨by rfl, ?_⟩) ?_ ?_
    rotate_left
    ·intro w'
     go_simp
     with_reducible rfl
    rotate_left
    ·simp only [Act.put, List.setIfInBounds_toArray, List.set_cons_zero, List.set_cons_succ, i64_w, i32_w]
     rfl
    refine pure_ (i := 8) (N := some 22) (v := ?_) (a' := ?_) #[true, true, true, true, true, true, true, false, true, false, false, false, false, false, false, false] rfl rfl (by kernel_rfl) (fun _ _ _ h => h) (Or.inl ⟨by rfl, ?_⟩) ?_ ?_
    rotate_left
    ·intro w'
     go_simp
     with_reducible rfl
    rotate_left
    ·simp only [Act.put, List.setIfInBounds_toArray, List.set_cons_zero, List.set_cons_succ, i64_w, i32_w]
     rfl
    refine pure_ (i := 9) (N := some 23) (v := ?_) (a' := ?_) #[true, true, true, true, true, true, true, false, true, true, false, false, false, false, false, false] rfl rfl (by kernel_rfl) (fun _ _ _ h => h) (Or.inl ⟨by rfl, ?_⟩) ?_ ?_
    rotate_left
    ·intro w'
     go_simp
     with_reducible rfl
    rotate_left
    ·simp only [Act.put, List.setIfInBounds_toArray, List.set_cons_zero, List.set_cons_succ, i64_w, i32_w]
     rfl
    refine pure_ (i := 10) (N := some 24) (v := ?_) (a' := ?_) #[true, true, true, true, true, true, true, false, true, true, true, false, false, false, false, false] rfl rfl (by kernel_rfl) (fun _ _ _ h => h) (Or.inl ⟨by rfl, ?_⟩) ?_ ?_
    rotate_left
    ·intro w'
     go_simp
     with_reducible rfl
    rotate_left
    ·simp only [Act.put, List.setIfInBounds_toArray, List.set_cons_zero, List.set_cons_succ, i64_w, i32_w]
     rfl
    refine take_ (i := 7) (N := some 21) (v := ?_) (a' := ?_) #[true, true, true, true, true, true, true, true, true, true, true, false, false, false, false, false] rfl rfl (by kernel_rfl) (fun _ _ _ h => h) (Or.inl ⟨by rfl, ?_⟩) hHeld ?_ ?_
    rotate_left
    ·rintro w' ⟨s0, s1⟩
     go_simp
     with_reducible rfl
    rotate_left
    ·simp only [Act.put, List.setIfInBounds_toArray, List.set_cons_zero, List.set_cons_succ, i64_w, i32_w]
     rfl
    refine take_ (i := 11) (N := some 25) (v := ?_) (a' := ?_) #[true, true, true, true, true, true, true, true, true, true, true, true, false, false, false, false] rfl rfl (by kernel_rfl) (fun _ _ _ h => h) (Or.inl ⟨by rfl, ?_⟩) hHeld ?_ ?_
    rotate_left
    ·rintro w' ⟨s0, s1⟩
     go_simp
     with_reducible rfl
    rotate_left
    ·simp only [Act.put, List.setIfInBounds_toArray, List.set_cons_zero, List.set_cons_succ, i64_w, i32_w]
     rfl
    refine pure_ (i := 12) (N := some 26) (v := ?_) (a' := ?_) #[true, true, true, true, true, true, true, true, true, true, true, true, true, false, false, false] rfl rfl (by kernel_rfl) (fun _ _ _ h => h) (Or.inl ⟨by rfl, ?_⟩) ?_ ?_
    rotate_left
    ·intro w'
     go_simp
     with_reducible rfl
    rotate_left
    ·simp only [Act.put, List.setIfInBounds_toArray, List.set_cons_zero, List.set_cons_succ, i64_w, i32_w]
     rfl
    refine last_ (i := 13) (N := none) #[true, true, true, true, true, true, true, true, true, true, true, true, true, true, false, false] rfl rfl (by kernel_rfl) (by decide) (fun K hK => ?_)
    refine skip_ (w1 := ?_) (by rfl) rfl ?_ ?_
    rotate_left
    ·go_simp
     rfl
    refine hK.out _ _ ?_
    clear hK K
    refine pure_ (i := 14) (N := some 27) (v := ?_) (a' := ?_) #[true, true, true, true, true, true, true, true, true, true, true, true, true, true, true, false] rfl rfl (by kernel_rfl) (fun _ _ _ h => h) (Or.inl ⟨by rfl, ?_⟩) ?_ ?_
    rotate_left
    ·intro w'
     go_simp
     with_reducible rfl
    rotate_left
    ·simp only [Act.put, List.setIfInBounds_toArray, List.set_cons_zero, List.set_cons_succ, i64_w, i32_w]
     rfl
    obtain ⟨zs0, hzs0⟩ := cell?_setCell_some (w := w1) (p := ⟨g, a.toNat, none⟩) (x := .slice A2_ y2.length c2_) (q := ⟨g, b.toNat, none⟩) (v := .slice A2_ y2.length c2_) (by assumption)
    refine last_ (i := 15) (N := none) #[true, true, true, true, true, true, true, true, true, true, true, true, true, true, true, true] rfl rfl (by kernel_rfl) (by decide) (fun K hK => ?_)
    refine skip_ (w1 := ?_) (by rfl) rfl ?_ ?_
    rotate_left
    ·go_simp
     rfl
    refine hK.out _ _ ?_
    clear hK K
    refine done_ (by kernel_rfl) ?_
    obtain ⟨R3, G3⟩ := swapR HR.out a b (of_eq_true p1) (of_eq_true q1) (of_eq_true p2) (of_eq_true q2) (by rw [Hy1.out]; exact hR1) (by rw [Hy2.out]; exact hR2)
    have rs : RevI xs (i + 1) ((ys.set a.toNat (ys.getD b.toNat [])).set b.toNat (ys.getD a.toNat [])) := by rw [ea.out, eb.out]; exact rev_step [] HI.out c4n
    rw [Hy1.out, Hy2.out] at R3 rs
    try go_wp2
    go_roundg k1
    case measure => omega
    case rel => exact ⟨i + 1, a + 1, b - 1, _, by rw [ew1], by rw [ew2], ⟨by have := HE.out; omega⟩, ⟨by have := HK.out; omega⟩, ⟨rs⟩, ⟨R3⟩, ⟨below_set (below_set HB.out gb) gb⟩, ⟨HG.out.trans G3⟩⟩
   ·have c4b0 : decide (a < b) = false := decide_eq_false c4
    go_wp2
    go_end0
    exact ⟨rfl, rev_end HI.out (by have := HE.out; omega) HK.out.2 ▸ HR.out, HB.out, HG.out⟩
end Go.Proofs.Ytclcnglamlegiaa.Each
namespace Go.Proofs.Ytclcnglamlegiaa.Undo
open Go Go.RowKit Go.Proofs.YtclcnglamlegiaaW.PrintWords Go.Proofs.YtclcnglamlegiaaW.PrintLast Go.Proofs.YtclcnglamlegiaaW.PrintMore Go.Proofs.Ytclcnglamlegiaa.PMD Go.Proofs.Ytclcnglamlegiaa.Each
attribute [local go_sem] max2_int min2_int max_two min_two max_three min_three max_four min_four   -- for this text's walks alone
attribute [local go_sem high] eqA30
set_option linter.unusedVariables false
set_option linter.unusedSimpArgs false
def bks (k : Nat) : List S36 → List (List S34) → Option (List (List S34))
 | _, [] => some []
 | a, L :: r => (trial_Apply.f k a L).bind fun t => if (!(t.2.1 == 0) || (!(t.2.2.1 == 0) || (!(t.2.2.2 == 0)))) = true then some [] else (Trial.trial_Back.f k a L).bind fun b => (bks k t.1 r).bind fun q => some (b.1 :: q)
def f (k : Nat) (l0 : List S36) (l1 : List (List S34)) : Option (List (List S34) × Int × Int × Int × Int) :=
 if l1.length ≤ 1000000 then
  (merge_each.f k l0 l1).bind fun t => (bks k l0 l1).bind fun out => if (!(t.2.2.1 == 0) || (!(t.2.2.2.1 == 0) || (!(t.2.2.2.2 == 0)))) = true then some ([], t.2.1, t.2.2.1, t.2.2.2.1, t.2.2.2.2) else some (out.reverse, 0, 0, 0, 0)
 else none
theorem mono_bks : ∀ (l1 : List (List S34)) (a : List S36) (k : Nat), LeO (bks k a l1) (bks (k + 1) a l1)
 | [], a, k => LeO.refl _
 | L :: r, a, k => by
  unfold bks
  exact LeO.bind (trial_Apply.mono _ _ _) (fun _ => LeO.ite (LeO.refl _) (LeO.bind (Trial.bmono _ _ _) (fun _ => LeO.bind (mono_bks r _ k) (fun _ => LeO.refl _))))
theorem mono_f : ∀ a0 a1 k, LeO (f k a0 a1) (f (k + 1) a0 a1) := by
 intro a0 a1 k
 unfold f
 exact LeO.ite (LeO.bind (merge_each.mono _ _ _) (fun _ => LeO.bind (mono_bks _ _ _) (fun _ => LeO.refl _))) (LeO.refl _)
theorem app_same {k k' : Nat} {a : List S36} {L : List S34} {t u : List S36 × Int × Int × Int} (h : trial_Apply.f k a L = some t) (h' : trial_Apply.f k' a L = some u) : t = u := by
 have h1 := at_rounds (trial_Apply.mono a L) (Nat.le_max_left k k') h
 have h2 := at_rounds (trial_Apply.mono a L) (Nat.le_max_right k k') h'
 exact Option.some.inj (h1.symm.trans h2)
def I (w0 : World) (go : Nat) (k : Nat) (l1 : List (List S34)) (full : List (List S34)) (i : Nat) (xs : List S36) (w : World) : Prop :=
 ∃ vo out rest, US w0 w go vo out ∧ bks k xs (l1.drop i) = some rest ∧ out ++ rest = full ∧ out.length = i
theorem bstep {k k' : Nat} {l1 : List (List S34)} {i : Nat} {xs nxt : List S36} {L : List S34} {rest : List (List S34)} (h : bks k xs (l1.drop i) = some rest) (hL : l1[i]? = some L) (hA : trial_Apply.f k' xs L = some (nxt, 0, 0, 0)) :
  ∃ b z1 z2 z3 q, Trial.trial_Back.f k xs L = some (b, z1, z2, z3) ∧ bks k nxt (l1.drop (i + 1)) = some q ∧ rest = b :: q := by
 have hlt := (List.getElem?_eq_some_iff.mp hL).1
 rw [List.drop_eq_getElem_cons hlt, (List.getElem?_eq_some_iff.mp hL).2] at h
 unfold bks at h
 obtain ⟨t, ht, h⟩ := Option.bind_eq_some_iff.mp h
 obtain rfl := app_same ht hA
 rw [if_neg (show ¬ ((!((0 : Int) == 0) || (!((0 : Int) == 0) || (!((0 : Int) == 0)))) = true) by decide)] at h
 obtain ⟨⟨b, z1, z2, z3⟩, hb, h⟩ := Option.bind_eq_some_iff.mp h
 obtain ⟨q, hq, h⟩ := Option.bind_eq_some_iff.mp h
 exact ⟨b, z1, z2, z3, q, hb, hq, (Option.some.inj h).symm⟩
set_option maxHeartbeats 8000000 in
set_option maxRecDepth 100000 in
theorem calls (k : Nat) (A0 : Option Addr) (c0 : Nat) (l0 : List S36) (A1 : Option Addr) (c1 : Nat) (l1 : List (List S34)) (r1 : List (List S34)) (r2 r3 r4 r5 : Int) (w : World) (hr0 : Kd.C k36 w A0 l0.length l0) (hc0 : l0.length ≤ c0) (hr1 : Kd.C (Kd.slice 34 k34) w A1 l1.length l1) (hc1 : l1.length ≤ c1) (h : f k l0 l1 = some (r1, r2, r3, r4, r5)) :
  Calls Try.prog 19 #[.slice A0 l0.length c0, .slice A1 l1.length c1] w fun e w' => ∃ v0_ : Value, e = .returned (.tuple #[v0_, .int .i64 r2, .agg #[.int .i64 r3, .int .i64 r4, .int .i64 r5]]) ∧ Kd.R (Kd.slice 34 k34) 27 w' w.heap.size (fun _ => True) v0_ r1 ∧ Below w.heap.size w w' := by
 have hu30 := Try.underlying30
 have hu23 := Try.underlying23
 have hmf : ∀ (fn : Fn) (first cap : Array Value) (w : World), (Instr.makeFunc fn first cap).run Try.prog w = .ok (.func fn first cap) w := fun _ _ _ _ => rfl
 unfold f at h
 by_cases hll : l1.length ≤ 1000000
 case neg => rw [if_neg hll] at h; cases h
 rw [if_pos hll] at h
 obtain ⟨⟨t1, t2, t3, t4, t5⟩, hE, h⟩ := Option.bind_eq_some_iff.mp h
 obtain ⟨full, hbk, h⟩ := Option.bind_eq_some_iff.mp h
 have HBK := Aside0.mk hbk
 have HE := Aside0.mk hE
 have HLL := Aside0.mk hll
 have HV0 : Aside0 (Kd.V k36 36 w w.heap.size (fun k_ => k_ < w.heap.size) (.slice A0 l0.length c0) l0) := ⟨Kd.V_mk hc0 (Kd.C_F k36_heap hr0)⟩
 have HR1 := Aside0.mk hr1
 have HC1 := Aside0.mk hc1
 have HH := Aside0.mk h
 clear hr0 hc0 hr1 hc1 hE hll h hbk
 have HB := Aside0.mk (Below.refl w.heap.size w)
 go_enter Try.func19, Try.ntmps19
 go_wp2_with (first | ((with_reducible refine gate_dst (N := 6) rfl ?_); refine box_event ?hg (N := 6) ?hd (cs := #[.int .i64 0, .int .i64 0, .int .i64 0]) (t := 30) ?hr ?_; (case hd => rfl); (case hg => rfl); (case hr => first | (go_simp; done) | (go_simp; rfl)); intro g6 hg w1 hbox hb; have n0_ := Aside0.mk (below_step (by repeat (first | (with_reducible first | exact HB.out | apply below_alloc | apply pw_below_drewN | apply below_drew1) | exact HB.out)) hb); have BK6 := Aside0.mk hbox; have GE6 := Aside0.mk ((by rw [hg]; exact (below_size HB.out)) : w.heap.size ≤ g6); clear HB; have HB := n0_; clear n0_ hb hbox hg) | ((with_reducible refine gate_dst (N := 7) rfl ?_); refine box_event ?hg (N := 7) ?hd (cs := #[.slice none 0 0]) (t := 23) ?hr ?_; (case hd => rfl); (case hg => rfl); (case hr => first | (go_simp; done) | (go_simp; rfl)); intro g7 hg w2 hbox hb; have n0_ := Aside0.mk (below_step (by repeat (first | (with_reducible first | exact HB.out | apply below_alloc | apply pw_below_drewN | apply below_drew1) | exact HB.out)) hb); have n1_ := Aside0.mk (blk_below (by (with_reducible repeat (first | refine blk_drewN ?_ _ | refine blk_drew ?_ | refine blk_alloc ?_ _)); exact BK6.out) hb); have BK7 := Aside0.mk hbox; have GE7 := Aside0.mk ((by rw [hg]; exact (below_size (by repeat (first | (with_reducible first | exact HB.out | apply below_alloc | apply pw_below_drewN | apply below_drew1) | exact HB.out)))) : w.heap.size ≤ g7); clear HB BK6; have HB := n0_; have BK6 := n1_; clear n0_ n1_ hb hbox hg))
 have HIw : Aside0 (I w g7 k l1 full 0 l0 w2) := ⟨⟨_, [], full, ⟨BK7.out, Kd.R_nil _ _ _ _ _, HB.out, GE7.out⟩, HBK.out, rfl, rfl⟩⟩
 obtain ⟨_, hVl, hF⟩ := Kd.V_at HV0.out
 have HKP := Aside0.mk (KP_came (P := fun k_ => k_ < w.heap.size) (w := w2) (base := w.heap.size) (ok := fun _ => True) hVl hF)
 clear hVl hF
 refine (each29 g7 k (fun k_ => k_ < w.heap.size) TU (show ¬ (30 = 23 ∨ 30 = 27) from by decide) (show ¬ (36 = 23 ∨ 36 = 27) from by decide) w w2 _ l0 A1 c1 l1 t1 t2 t3 t4 t5 (I w g7 k l1 full) ?ib ?ifar ?i0 ?st HKP.out HR1.out HC1.out HIw.out HE.out).mono ?_
 (case ib => exact fun i xs w w' ⟨vo, out, rest, hS, hR, hl⟩ hb => ⟨vo, out, rest, hS.below hb, hR, hl⟩)
 (case ifar => exact fun i xs w g cs j u ⟨vo, out, rest, hS, hR, hl⟩ hg hl' => ⟨vo, out, rest, hS.far hg hl' j u, hR, hl⟩)
 (case i0 => exact fun i xs w ⟨vo, out, rest, hS, hR, hl⟩ => hS.hb)
 (case st =>
  intro i xs L nxt k' w' A c A' c' hI hL hA hC hc _ hC' hc'
  obtain ⟨vo, out, rest, hS, hR, hf, hl⟩ := hI
  obtain ⟨b, z1, z2, z3, q, hb, hq, rfl⟩ := bstep hR hL hA
  refine (ustep w w' g7 vo out k xs A c L A' c' b z1 z2 z3 hS hC hc hC' hc' hb (by have h1_ := (List.getElem?_eq_some_iff.mp hL).1; have h2_ := HLL.out; omega)).mono ?_
  rintro e w'' ⟨he, vo2, hS2, ht⟩
  exact ⟨he, ⟨vo2, out ++ [b], q, hS2, hq, by rw [← hf]; simp, by simp [hl]⟩, ht⟩)
 rintro e w3 ⟨v3, rfl, hb3, htk, hpost⟩
 have HP := Aside0.mk hpost
 have n1_ := Aside0.mk (htk.bl _ _ _ BK6.out (show ¬ (30 = 23 ∨ 30 = 27) from by decide))
 clear HB BK6 BK7 HIw HKP hpost htk
 have HB := Aside0.mk hb3
 have BK6 := n1_
 clear n1_ hb3
 by_cases c8 : (!(t3 == 0) || (!(t4 == 0) || (!(t5 == 0)))) = true
 ·have HH2 := HH.out
  rw [if_pos c8] at HH2
  have c8b0 : (!(t3 == 0) || (!(t4 == 0) || (!(t5 == 0)))) = true := c8
  clear c8
  simp only [Option.some.injEq, Prod.mk.injEq] at HH2
  obtain ⟨rfl, rfl, rfl, rfl, rfl⟩ := HH2
  clear HH HP
  go_wp2_with (first | ((with_reducible refine gate_dst (N := 10) rfl ?_); refine box_event ?hg (N := 10) ?hd (cs := #[.int .i64 0, .int .i64 0, .int .i64 0]) (t := 30) ?hr ?_; (case hd => rfl); (case hg => rfl); (case hr => first | (go_simp; done) | (go_simp; rfl)); intro g10 hg w4 hbox hb; have n0_ := Aside0.mk (below_step (by repeat (first | (with_reducible first | exact HB.out | apply below_alloc | apply pw_below_drewN | apply below_drew1) | exact HB.out)) hb); have n1_ := Aside0.mk (blk_below (by (with_reducible repeat (first | refine blk_drewN ?_ _ | refine blk_drew ?_ | refine blk_alloc ?_ _)); exact BK6.out) hb); have BK10 := Aside0.mk hbox; have GE10 := Aside0.mk ((by rw [hg]; exact (below_size (by repeat (first | (with_reducible first | exact HB.out | apply below_alloc | apply pw_below_drewN | apply below_drew1) | exact HB.out)))) : w.heap.size ≤ g10); have NB6_10 := Aside0.mk ((by rw [hg]; exact Nat.ne_of_lt (Array.getElem?_eq_some_iff.mp BK6.out).1) : g6 ≠ g10); have NB10_6 := Aside0.mk (Ne.symm NB6_10.out); clear HB BK6; have HB := n0_; have BK6 := n1_; clear n0_ n1_ hb hbox hg; have hcz10_0 : w4.cell? ⟨g10, 0, none⟩ = some (.int .i64 0) := (blk_cell BK10.out 0).trans rfl; have hcz10_1 : w4.cell? ⟨g10, 1, none⟩ = some (.int .i64 0) := (blk_cell BK10.out 1).trans rfl; have hcz10_2 : w4.cell? ⟨g10, 2, none⟩ = some (.int .i64 0) := (blk_cell BK10.out 2).trans rfl; have hfz10_0 := blk_frozen BK10.out 0; have hfz10_1 := blk_frozen BK10.out 1; have hfz10_2 := blk_frozen BK10.out 2))
  have n2_ : Aside0 ((((w4.setCell ⟨g10, 0, none⟩ (.int .i64 t3)).setCell ⟨g10, 1, none⟩ (.int .i64 t4)).setCell ⟨g10, 2, none⟩ (.int .i64 t5)).heap[g6]? = some (.cells #[.int .i64 0, .int .i64 0, .int .i64 0] 30 (0, 0))) := ⟨blk_far (blk_far (blk_far BK6.out NB6_10.out _) NB6_10.out _) NB6_10.out _⟩
  have n3_ : Aside0 ((((w4.setCell ⟨g10, 0, none⟩ (.int .i64 t3)).setCell ⟨g10, 1, none⟩ (.int .i64 t4)).setCell ⟨g10, 2, none⟩ (.int .i64 t5)).heap[g10]? = some (.cells #[.int .i64 t3, .int .i64 t4, .int .i64 t5] 30 (0, 0))) := ⟨blk_put (blk_put (blk_put BK10.out 0 _ rfl) 1 _ rfl) 2 _ rfl⟩
  have n4_ : Aside0 (Below w.heap.size w (((w4.setCell ⟨g10, 0, none⟩ (.int .i64 t3)).setCell ⟨g10, 1, none⟩ (.int .i64 t4)).setCell ⟨g10, 2, none⟩ (.int .i64 t5))) := ⟨below_set (below_set (below_set HB.out GE10.out) GE10.out) GE10.out⟩
  clear BK6 BK10 HB
  generalize (((w4.setCell ⟨g10, 0, none⟩ (.int .i64 t3)).setCell ⟨g10, 1, none⟩ (.int .i64 t4)).setCell ⟨g10, 2, none⟩ (.int .i64 t5)) = w14 at n2_ n3_ n4_ ⊢
  have BK6 := Aside0.mk (blk_drew n2_.out)
  have BK10 := Aside0.mk (blk_drew n3_.out)
  have HB := Aside0.mk (below_drew1 n4_.out)
  clear n2_ n4_
  refine start_ (n := 5) (S := fun w' => w'.cell? ⟨g10, 0, none⟩ = some (.int .i64 t3) ∧ w'.cell? ⟨g10, 1, none⟩ = some (.int .i64 t4) ∧ w'.cell? ⟨g10, 2, none⟩ = some (.int .i64 t5)) (ds := []) #[false, false, false, false, false] (by kernel_rfl) rfl rfl ⟨(blk_cell n3_.out 0).trans rfl, (blk_cell n3_.out 1).trans rfl, (blk_cell n3_.out 2).trans rfl⟩ (fun hHeld => ?_)
  clear n3_
  generalize w14.drew = w15 at BK6 BK10 HB hHeld ⊢
  refine pure_ (i := 0) (N := some 22) (v := ?_) (a' := ?_) #[true, false, false, false, false] rfl rfl (by kernel_rfl) (fun _ _ _ h => h) (Or.inl ⟨by rfl, ?_⟩) ?_ ?_
  rotate_left
  ·intro w'
   go_simp
   with_reducible rfl
  rotate_left
  ·simp only [Act.put, List.setIfInBounds_toArray, List.set_cons_zero, List.set_cons_succ, i64_w, i32_w]
   rfl
  refine pure_ (i := 2) (N := some 4) (v := ?_) (a' := ?_) #[true, false, true, false, false] rfl rfl (by kernel_rfl) (fun _ _ _ h => h) (Or.inl ⟨by rfl, ?_⟩) ?_ ?_
  rotate_left
  ·intro w'
   go_simp
   with_reducible rfl
  rotate_left
  ·simp only [Act.put, List.setIfInBounds_toArray, List.set_cons_zero, List.set_cons_succ, i64_w, i32_w]
   rfl
  refine pure_ (i := 3) (N := some 5) (v := ?_) (a' := ?_) #[true, false, true, true, false] rfl rfl (by kernel_rfl) (fun _ _ _ h => h) (Or.inl ⟨by rfl, ?_⟩) ?_ ?_
  rotate_left
  ·intro w'
   go_simp
   with_reducible rfl
  rotate_left
  ·simp only [Act.put, List.setIfInBounds_toArray, List.set_cons_zero, List.set_cons_succ, i64_w, i32_w]
   rfl
  refine take_ (i := 1) (N := some 23) (v := ?_) (a' := ?_) #[true, true, true, true, false] rfl rfl (by kernel_rfl) (fun _ _ _ h => h) (Or.inl ⟨by rfl, ?_⟩) hHeld ?_ ?_
  rotate_left
  ·rintro w' ⟨s0, s1, s2⟩
   go_simp
   with_reducible rfl
  rotate_left
  ·simp only [Act.put, List.setIfInBounds_toArray, List.set_cons_zero, List.set_cons_succ, i64_w, i32_w]
   rfl
  refine one_ (i := 4) (N := none) #[true, true, true, true, true] rfl rfl (by kernel_rfl) (by decide) (fun K hK => ?_)
  have hs16 : w15.cell? ⟨g6, 0, none⟩ = some (.int .i64 0) := (blk_cell BK6.out 0).trans rfl
  have hfs16 := blk_frozen BK6.out 0
  have hns16_1 := NB10_6.out
  have hms16_1 := NB6_10.out
  have hs17 : w15.cell? ⟨g6, 1, none⟩ = some (.int .i64 0) := (blk_cell BK6.out 1).trans rfl
  have hfs17 := blk_frozen BK6.out 1
  have hs18 : w15.cell? ⟨g6, 2, none⟩ = some (.int .i64 0) := (blk_cell BK6.out 2).trans rfl
  have hfs18 := blk_frozen BK6.out 2
  refine skip_ (w1 := ?_) (by rfl) rfl ?_ ?_
  rotate_left
  ·go_simp
   rfl
  refine hK.out _ _ ⟨((cell_far (p := ⟨g6, _, none⟩) NB10_6.out _).trans (((cell_far (p := ⟨g6, _, none⟩) NB10_6.out _).trans (((cell_far (p := ⟨g6, _, none⟩) NB10_6.out _).trans (hHeld.1)))))), ((cell_far (p := ⟨g6, _, none⟩) NB10_6.out _).trans (((cell_far (p := ⟨g6, _, none⟩) NB10_6.out _).trans (((cell_far (p := ⟨g6, _, none⟩) NB10_6.out _).trans (hHeld.2.1)))))), ((cell_far (p := ⟨g6, _, none⟩) NB10_6.out _).trans (((cell_far (p := ⟨g6, _, none⟩) NB10_6.out _).trans (((cell_far (p := ⟨g6, _, none⟩) NB10_6.out _).trans (hHeld.2.2))))))⟩ (fun hHeld => ?_)
  clear hK K
  refine done_ (by kernel_rfl) ?_
  try go_wp2
  refine bodyPost_ret (results_list (rs := [.tmp 4, .tmp 5, .cell 6 30]) rfl (by simp) (.tmp (.tmp (.cell g6 30 #[.int .i64 t3, .int .i64 t4, .int .i64 t5] (0, 0) _ rfl (blk_put (blk_put (blk_put BK6.out 0 _ rfl) 1 _ rfl) 2 _ rfl) Try.underlying30 rfl (by kernel_rfl) .nil)))) rfl ?_
  exact ⟨_, by first | rfl | (simp [errW_none, errW_some] <;> rfl) | (simp [*, errW_none, errW_some] <;> rfl), Kd.R_nil _ _ _ _ _, below_set (below_set (below_set HB.out GE6.out) GE6.out) GE6.out⟩
 ·have HH2 := HH.out
  rw [if_neg c8] at HH2
  have c8b0 : (!(t3 == 0) || (!(t4 == 0) || (!(t5 == 0)))) = false := by simpa using c8
  clear c8
  simp only [Option.some.injEq, Prod.mk.injEq] at HH2
  obtain ⟨rfl, rfl, rfl, rfl, rfl⟩ := HH2
  obtain ⟨hKP, vo, q, rest, hS, hR, hf, hlen⟩ := HP.out c8b0
  rw [List.drop_length] at hR
  obtain rfl : rest = [] := (Option.some.inj hR).symm
  rw [List.append_nil] at hf
  subst hf
  obtain ⟨Ao, co, ev⟩ := Kd.R_slice hS.ho
  subst ev
  have HS := Aside0.mk hS
  have Hlen := Aside0.mk hlen
  obtain ⟨A3, c3, ev3, hl3, hC3⟩ := KP_read hKP hS.hb
  subst ev3
  have HO7 : Aside0 (w3.heap[g7]? = some (.cells #[.slice Ao q.length co] 23 (0, 0))) := ⟨hS.hO⟩
  clear hKP hS hR HH HP hl3 hC3 hlen
  go_wp2_with (first | ((with_reducible refine gate_dst (N := 10) rfl ?_); refine box_event ?hg (N := 10) ?hd (cs := #[.int .i64 0, .int .i64 0, .int .i64 0]) (t := 30) ?hr ?_; (case hd => rfl); (case hg => rfl); (case hr => first | (go_simp; done) | (go_simp; rfl)); intro g10 hg w4 hbox hb; have n0_ := Aside0.mk (below_step (by repeat (first | (with_reducible first | exact HB.out | apply below_alloc | apply pw_below_drewN | apply below_drew1) | exact HB.out)) hb); have n1_ := Aside0.mk (blk_below (by (with_reducible repeat (first | refine blk_drewN ?_ _ | refine blk_drew ?_ | refine blk_alloc ?_ _)); exact BK6.out) hb); have BK10 := Aside0.mk hbox; have GE10 := Aside0.mk ((by rw [hg]; exact (below_size (by repeat (first | (with_reducible first | exact HB.out | apply below_alloc | apply pw_below_drewN | apply below_drew1) | exact HB.out)))) : w.heap.size ≤ g10); have NB6_10 := Aside0.mk ((by rw [hg]; exact Nat.ne_of_lt (Array.getElem?_eq_some_iff.mp BK6.out).1) : g6 ≠ g10); have NB10_6 := Aside0.mk (Ne.symm NB6_10.out); have n2_ := Aside0.mk (blk_below (by (with_reducible repeat (first | refine blk_drewN ?_ _ | refine blk_drew ?_ | refine blk_alloc ?_ _)); exact HO7.out) hb); have NB7_10 := Aside0.mk ((by rw [hg]; exact Nat.ne_of_lt (Array.getElem?_eq_some_iff.mp HO7.out).1) : g7 ≠ g10); have NB10_7 := Aside0.mk (Ne.symm NB7_10.out); have HS4 := Aside0.mk (HS.out.below hb); clear HO7; have BK7 := n2_; clear n2_; clear HB BK6; have HB := n0_; have BK6 := n1_; clear n0_ n1_ hb hbox hg; have hcz10_0 : w4.cell? ⟨g10, 0, none⟩ = some (.int .i64 0) := (blk_cell BK10.out 0).trans rfl; have hcz10_1 : w4.cell? ⟨g10, 1, none⟩ = some (.int .i64 0) := (blk_cell BK10.out 1).trans rfl; have hcz10_2 : w4.cell? ⟨g10, 2, none⟩ = some (.int .i64 0) := (blk_cell BK10.out 2).trans rfl; have hfz10_0 := blk_frozen BK10.out 0; have hfz10_1 := blk_frozen BK10.out 1; have hfz10_2 := blk_frozen BK10.out 2; have hs7 : w4.cell? ⟨g7, 0, none⟩ = some (.slice Ao q.length co) := (blk_cell BK7.out 0).trans rfl; have hfs7 := blk_frozen BK7.out 0; have hns7 := NB10_7.out; have hms7 := NB7_10.out; have hns6 := NB10_6.out; have hms6 := NB6_10.out; have hcz6_0 : w4.cell? ⟨g6, 0, none⟩ = some (.int .i64 0) := (blk_cell BK6.out 0).trans rfl; have hcz6_1 : w4.cell? ⟨g6, 1, none⟩ = some (.int .i64 0) := (blk_cell BK6.out 1).trans rfl; have hcz6_2 : w4.cell? ⟨g6, 2, none⟩ = some (.int .i64 0) := (blk_cell BK6.out 2).trans rfl; have hfz6_0 := blk_frozen BK6.out 0; have hfz6_1 := blk_frozen BK6.out 1; have hfz6_2 := blk_frozen BK6.out 2) | ((with_reducible refine gate_callee (f := 31) rfl ?_); refine goesL_ (some 25) rfl rfl Try.func31 (by kernel_rfl) rfl #[.slice Ao q.length co] rfl (by (try simp only [List.map_toArray, List.map_cons, List.map_nil]); first | done | rfl) ?_; have HQ1 : Aside0 (Kd.R (Kd.slice 34 k34) 27 (((w4.setCell ⟨g10, 0, none⟩ (.int .i64 t3)).setCell ⟨g10, 1, none⟩ (.int .i64 t4)).setCell ⟨g10, 2, none⟩ (.int .i64 t5)) w.heap.size (fun _ => True) (.slice Ao q.length co) q) := ⟨Kd.R_set (Kd.R_set (Kd.R_set HS4.out.ho BK10.out (US.inE (by decide) (by decide)) 0 _) (blk_put BK10.out 0 _ rfl) (US.inE (by decide) (by decide)) 1 _) (blk_put (blk_put BK10.out 0 _ rfl) 1 _ rfl) (US.inE (by decide) (by decide)) 2 _⟩; have HBW := Aside0.mk (below_set (below_set (below_set HB.out GE10.out (v := .int .i64 t3) (j := 0)) GE10.out (v := .int .i64 t4) (j := 1)) GE10.out (v := .int .i64 t5) (j := 2)); have BK6W : Aside0 ((((w4.setCell ⟨g10, 0, none⟩ (.int .i64 t3)).setCell ⟨g10, 1, none⟩ (.int .i64 t4)).setCell ⟨g10, 2, none⟩ (.int .i64 t5)).heap[g6]? = some (.cells #[.int .i64 0, .int .i64 0, .int .i64 0] 30 (0, 0))) := ⟨blk_far (blk_far (blk_far BK6.out NB6_10.out _) NB6_10.out _) NB6_10.out _⟩; have BK7W : Aside0 ((((w4.setCell ⟨g10, 0, none⟩ (.int .i64 t3)).setCell ⟨g10, 1, none⟩ (.int .i64 t4)).setCell ⟨g10, 2, none⟩ (.int .i64 t5)).heap[g7]? = some (.cells #[.slice Ao q.length co] 23 (0, 0))) := ⟨blk_far (blk_far (blk_far BK7.out NB7_10.out _) NB7_10.out _) NB7_10.out _⟩; refine (urev w _ Ao co q HQ1.out HBW.out (by have h1_ := Hlen.out; have h2_ := HLL.out; omega)).mono ?_; rintro e w5 ⟨rfl, hr, hb, hg⟩; refine ⟨_, rfl, ?_⟩; have HQ5 := Aside0.mk hr; have HB5 := Aside0.mk hb; have BK65 := Aside0.mk (blk_grown BK6W.out hg (Kd.R_ne HQ1.out BK6W.out (by decide))); have BK75 := Aside0.mk (blk_grown BK7W.out hg (Kd.R_ne HQ1.out BK7W.out (by decide))); clear hr hb hg HQ1 HBW BK6W BK7W; have hcy6_0 : w5.cell? ⟨g6, 0, none⟩ = some (.int .i64 0) := (blk_cell BK65.out 0).trans rfl; have hcy6_1 : w5.cell? ⟨g6, 1, none⟩ = some (.int .i64 0) := (blk_cell BK65.out 1).trans rfl; have hcy6_2 : w5.cell? ⟨g6, 2, none⟩ = some (.int .i64 0) := (blk_cell BK65.out 2).trans rfl; have hfy6_0 := blk_frozen BK65.out 0; have hfy6_1 := blk_frozen BK65.out 1; have hfy6_2 := blk_frozen BK65.out 2; have hcy7 : w5.cell? ⟨g7, 0, none⟩ = some (.slice Ao q.length co) := (blk_cell BK75.out 0).trans rfl))
  refine bodyPost_ret (results_list (rs := [.tmp 4, .tmp 5, .cell 6 30]) rfl (by simp) (.tmp (.tmp (.cell g6 30 #[.int .i64 0, .int .i64 0, .int .i64 0] (0, 0) _ rfl (blk_put (blk_put (blk_put BK65.out 0 _ rfl) 1 _ rfl) 2 _ rfl) Try.underlying30 rfl (by kernel_rfl) .nil)))) rfl ?_
  have HQ6 := Kd.R_set (Kd.R_set (Kd.R_set HQ5.out BK65.out (US.inE (by decide) (by decide)) 0 (.int .i64 0)) (blk_put BK65.out 0 _ rfl) (US.inE (by decide) (by decide)) 1 (.int .i64 0)) (blk_put (blk_put BK65.out 0 _ rfl) 1 _ rfl) (US.inE (by decide) (by decide)) 2 (.int .i64 0)
  exact ⟨_, by first | rfl | (simp [errW_none, errW_some] <;> rfl) | (simp [*, errW_none, errW_some] <;> rfl), HQ6, below_set (below_set (below_set HB5.out GE6.out (v := .int .i64 0) (j := 0)) GE6.out (v := .int .i64 0) (j := 1)) GE6.out (v := .int .i64 0) (j := 2)⟩
end Go.Proofs.Ytclcnglamlegiaa.Undo
