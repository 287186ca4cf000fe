/- Several texts of this session's, one behind the other: what each proves stands ahead of it. -/
import Derived.Test.YtclcnglamlegiaaPMRx0
import Derived.Test.YtclcnglamlegiaaWMore
import Derived.Test.YtclcnglamlegiaaPMRx10
import Derived.Test.YtclcnglamlegiaaPMRx8
namespace Go.Proofs.Ytclcnglamlegiaa.Each
open Go Go.RowKit Go.Proofs.YtclcnglamlegiaaW.PrintWords Go.Proofs.YtclcnglamlegiaaW.PrintLast Go.Proofs.YtclcnglamlegiaaW.PrintMore Go.Proofs.Ytclcnglamlegiaa.PMR
set_option linter.unusedVariables false
set_option linter.unusedSimpArgs false
structure TK (T : Nat → Prop) (w w' : World) : Prop where
 sz : w.heap.size ≤ w'.heap.size
 bl : ∀ (g : Nat) (cs : Array Value) (t : Nat), w.heap[g]? = some (.cells cs t (0, 0)) → ¬ T t → w'.heap[g]? = some (.cells cs t (0, 0))
section
variable {T : Nat → Prop} {w w' w1 w2 : World}
theorem TK.refl (T : Nat → Prop) (w : World) : TK T w w := ⟨Nat.le_refl _, fun _ _ _ h _ => h⟩
theorem TK.below (hb : Below w.heap.size w w') : TK T w w' := ⟨hb.size, fun g cs t h _ => (hb.block g (Array.getElem?_eq_some_iff.mp h).1).trans h⟩
theorem TK.trans (h1 : TK T w w1) (h2 : TK T w1 w2) : TK T w w2 := ⟨Nat.le_trans h1.sz h2.sz, fun g cs t h ht => h2.bl g cs t (h1.bl g cs t h ht) ht⟩
theorem TK.set {g : Nat} {cs : Array Value} {t : Nat} (h : TK T w w1) (hg : w1.heap[g]? = some (.cells cs t (0, 0))) (ht : T t) (j : Nat) (v : Value) : TK T w (w1.setCell ⟨g, j, none⟩ v) :=
 ⟨by rw [World.size_setCell]; exact h.sz, fun g2 cs2 t2 h2 ht2 => by
  have h3 := h.bl g2 cs2 t2 h2 ht2
  have hne : g2 ≠ g := by
   rintro rfl
   rw [hg] at h3
   injection h3 with h3
   injection h3 with _ h3 _
   exact ht2 (h3 ▸ ht)
  exact (Below.heap_setCell w1 ⟨g, j, none⟩ v g2 hne).trans h3⟩
theorem TK.new {g j : Nat} {v : Value} (h : TK T w w1) (hg : w.heap.size ≤ g) : TK T w (w1.setCell ⟨g, j, none⟩ v) :=
 ⟨by rw [World.size_setCell]; exact h.sz, fun g2 cs2 t2 h2 ht2 => by
  have hlt := (Array.getElem?_eq_some_iff.mp h2).1
  exact (Below.heap_setCell w1 ⟨g, j, none⟩ v g2 (by show g2 ≠ g; omega)).trans (h.bl g2 cs2 t2 h2 ht2)⟩
theorem TK.grown {v : Value} {e : Nat} (h : TK T w w1) (hty : ∀ k, v.ownBlock = some k → ∃ cells, w1.heap[k]? = some (.cells cells e (0, 0))) (ht : T e) (hg : w1.grownBy w2 v.ownBlock) : TK T w w2 :=
 ⟨Nat.le_trans h.sz hg.size, fun g2 cs2 t2 h2 ht2 => by
  have h3 := h.bl g2 cs2 t2 h2 ht2
  refine (hg.block g2 (Array.getElem?_eq_some_iff.mp h3).1 (fun e2 => ?_)).trans h3
  obtain ⟨cells, hc⟩ := hty g2 e2.symm
  rw [hc] at h3
  injection h3 with h3
  injection h3 with _ h3 _
  exact ht2 (h3 ▸ ht)⟩
theorem R_tk {α : Type} {d : Kd α} {e base : Nat} {ok : Nat → Prop} {v : Value} {xs : List α} (h : d.R e w base ok v xs) (hq : ∀ q, q ∈ e :: d.E → ¬ T q) (ht : TK T w w') : d.R e w' base ok v xs :=
 Kd.R_mono (Kd.R_move (Kd.R_bound h) (fun k hk => by
  obtain ⟨_, _, _, q, hm, cells, hc⟩ := hk
  rw [hc, ht.bl k cells q hc (hq q hm)])) (fun _ hk => hk.1)
end
def came (P : Nat → Prop) (w0 : World) : Kd (List S36) where
 sz := 1
 E := []
 K := fun _ xs cs => ∃ A c, cs = [.slice A xs.length c] ∧ xs.length ≤ c ∧ Kd.F k36 w0 P A xs.length xs
 M := fun _ _ _ xs cs => ∃ A c, cs = [.slice A xs.length c] ∧ xs.length ≤ c ∧ Kd.F k36 w0 P A xs.length xs
 K_len := by
  rintro w x cs ⟨A, c, rfl, _⟩
  rfl
 K_one := by
  rintro w x cs ⟨A, c, rfl, _⟩ u hu
  rw [List.mem_singleton.1 hu]
  rfl
 K_below := fun _ h => h
 K_of_M := fun h => h
 M_mono := fun _ h => h
 M_bound := fun h => h
 M_move := fun _ h => h
 M_lower := fun _ h => h
def KP (P : Nat → Prop) (w0 : World) : Kd (List S36) := Kd.or_ (came P w0) (Kd.slice 36 k36) rfl
section
variable {P : Nat → Prop} {w0 w w' : World} {xs : List S36} {v : Value} {base : Nat} {ok : Nat → Prop}
theorem KP_made (h : Kd.R k36 36 w base ok v xs) : (KP P w0).M w base ok xs [v] := .inr ⟨v, rfl, h⟩
theorem KP_came {A : Option Addr} {c : Nat} (hl : xs.length ≤ c) (h : Kd.F k36 w0 P A xs.length xs) : (KP P w0).M w base ok xs [.slice A xs.length c] := .inl ⟨A, c, rfl, hl, h⟩
theorem KP_read (h : (KP P w0).M w base ok xs [v]) (hb : Below w0.heap.size w0 w) : ∃ A c, v = .slice A xs.length c ∧ xs.length ≤ c ∧ Kd.C k36 w A xs.length xs := by
 rcases h with ⟨A, c, e, hl, hr⟩ | ⟨u, e, hr⟩
 ·injection e with e _
  exact ⟨A, c, e, hl, Kd.C_below (Kd.F_now hr) hb⟩
 ·injection e with e _
  subst e
  obtain ⟨A, c, e, hl, hr⟩ := Kd.R_reads hr
  exact ⟨A, c, e, hl, hr⟩
theorem KP_below (h : (KP P w0).M w base ok xs [v]) (hb : Below w.heap.size w w') : (KP P w0).M w' base ok xs [v] := Kd.M_below h hb
theorem KP_set {g : Nat} {cs : Array Value} {t : Nat} (h : (KP P w0).M w base ok xs [v]) (hg : w.heap[g]? = some (.cells cs t (0, 0))) (ht : 36 ≠ t) (j : Nat) (u : Value) : (KP P w0).M (w.setCell ⟨g, j, none⟩ u) base ok xs [v] := by
 rcases h with h | ⟨u2, e, hr⟩
 ·exact .inl h
 ·exact .inr ⟨u2, e, Kd.R_set hr hg (fun q hq => by rw [show k36.E = [] from rfl, List.mem_singleton] at hq; exact hq ▸ ht) j u⟩
end
end Go.Proofs.Ytclcnglamlegiaa.Each
namespace Go.Proofs.Ytclcnglamlegiaa.Each
open Go Go.RowKit Go.Proofs.YtclcnglamlegiaaW.PrintWords Go.Proofs.YtclcnglamlegiaaW.PrintLast Go.Proofs.YtclcnglamlegiaaW.PrintMore Go.Proofs.Ytclcnglamlegiaa.PMR
attribute [local go_sem] max2_int min2_int max_two min_two max_three min_three max_four min_four   -- for this text's walks alone
attribute [local go_sem high] eqA30
set_option linter.unusedVariables false
set_option linter.unusedSimpArgs false
set_option maxHeartbeats 8000000 in
set_option maxRecDepth 100000 in
theorem each27 (go : Nat) (k : Nat) (P0_ : Nat → Prop) (T : Nat → Prop) (hT30 : ¬ T 30) (hT36 : ¬ T 36) (w0 w : World) (v0 : Value) (l0 : List S36) (A1 : Option Addr) (c1 : Nat) (l1 : List (List S34)) (r1 : List S36) (r2 r3 r4 r5 : Int) (I : Nat → List S36 → World → Prop)
  (hIb : ∀ i xs w w', I i xs w → Below w.heap.size w w' → I i xs w') (hIf : ∀ i xs w g cs j (u : Value), I i xs w → w.heap[g]? = some (.cells cs 30 (0, 0)) → w0.heap.size ≤ g → I i xs (w.setCell ⟨g, j, none⟩ u)) (hI0 : ∀ i xs w, I i xs w → Below w0.heap.size w0 w)
  (hstep : ∀ (i : Nat) (xs : List S36) (L : List S34) (nxt : List S36) (k : Nat) (w : World) (A : Option Addr) (c : Nat) (A' : Option Addr) (c' : Nat), I i xs w → l1[i]? = some L → trial_Apply.f k xs L = some (nxt, 0, 0, 0) → Kd.C k36 w A xs.length xs → xs.length ≤ c → (KP P0_ w0).M w w0.heap.size (fun _ => True) xs [.slice A xs.length c] → Kd.C k34 w A' L.length L → L.length ≤ c' →
   Calls Try.prog 27 #[.slice A xs.length c, .slice A' L.length c', .pointer (some ⟨go, 0, none⟩)] w fun e w' => e = .returned (.tuple #[]) ∧ I (i + 1) nxt w' ∧ TK T w w')
  (hv : (KP P0_ w0).M w w0.heap.size (fun _ => True) l0 [v0]) (hr1 : Kd.C (Kd.slice 34 k34) w0 A1 l1.length l1) (hc1 : l1.length ≤ c1) (hI : I 0 l0 w) (h : merge_each.f k l0 l1 = some (r1, r2, r3, r4, r5)) :
  Calls Try.prog 20 #[v0, .slice A1 l1.length c1, .func (.func 27) #[] #[.pointer (some ⟨go, 0, none⟩)]] w fun e w' => ∃ v0_ : Value, e = .returned (.tuple #[v0_, .int .i64 r2, .agg #[.int .i64 r3, .int .i64 r4, .int .i64 r5]]) ∧ Below w0.heap.size w0 w' ∧ TK T w w' ∧ ((!(r3 == 0) || (!(r4 == 0) || (!(r5 == 0)))) = false → (KP P0_ w0).M w' w0.heap.size (fun _ => True) r1 [v0_] ∧ I l1.length r1 w') := by
 have hu30 := Try.underlying30
 have hl1m : l1.length ≤ 9223372036854775807 := hr1.2.1
 have HV := a0_ hv
 have HR1 := a0_ hr1
 have HC1 := a0_ hc1
 have HI := a0_ hI
 clear hr1 hc1 hv hI
 have HM := a0_ (Below.refl w.heap.size w)
 have H : (merge_each.l0 k l0 l1 (l1.length : Int) 0) = some (r1, r2, r3, r4, r5) := h
 clear h
 have H' := a0_ H
 clear H
 obtain ⟨A0, c0, ev0, hl0, hC0⟩ := KP_read HV.out (hI0 _ _ _ HI.out)
 subst ev0
 clear hC0 hl0
 go_enter Try.func20, Try.ntmps20
 go_wp2_with (first | ((with_reducible refine gate_dst (N := 8) rfl ?_); refine box_event ?hg (N := 8) ?hd (cs := #[.int .i64 0, .int .i64 0, .int .i64 0]) (t := 30) ?hr ?_; (case hd => rfl); (case hg => rfl); (case hr => first | (go_simp; done) | (go_simp; rfl)); intro gb114 hg w3 hbox hb; have n0_ := a0_ (bT_ (by repeat (first | (with_reducible first | exact HM.out | apply bA_ | apply bN_ | apply bD_) | exact HM.out)) hb); have BK114 := a0_ (hbox); clear HM; have HM := n0_; clear n0_; have GE114 := a0_ ((by rw [hg]; exact (bZ_ (hI0 _ _ _ HI.out))) : w0.heap.size ≤ gb114); have GW114 := a0_ ((by rw [hg]; exact Nat.le_refl _) : w.heap.size ≤ gb114); clear hb hbox hg))
 have HI2 := a0_ (hIb _ _ _ _ HI.out HM.out)
 have HV2 := a0_ (KP_below HV.out HM.out)
 have HT2 := a0_ (TK.below (T := T) HM.out)
 clear HI HV HM
 go_loopg [0, 15] k (fun kq v0 v15 w' => ∃ (x0_1 : List (S36)) (x15_1 : Int) (i : Nat) (x115000_1 : Int) (x115001_1 : Int) (x115002_1 : Int), v15 = .int .i64 x15_1 ∧ Aside0 (merge_each.l0 kq x0_1 l1 (l1.length : Int) x15_1 = some (r1, r2, r3, r4, r5)) ∧ Aside0 (kq ≤ k) ∧ Aside0 ((KP P0_ w0).M w' w0.heap.size (fun _ => True) x0_1 [v0]) ∧ Aside0 (w'.heap[gb114]? = some (.cells #[.int .i64 x115000_1, .int .i64 x115001_1, .int .i64 x115002_1] 30 (0, 0))) ∧ Aside0 (I i x0_1 w') ∧ Aside0 (x15_1 = (i : Int) ∧ i ≤ l1.length) ∧ Aside0 (TK T w w'))
 case atStart => exact ⟨(l0), (0), 0, (0), (0), (0), (by first | rfl | (simp; done) | (simp [*]; done)), H', ⟨Nat.le_refl _⟩, ⟨by first | exact HV2.out | exact KP_below HV2.out (by repeat (first | (with_reducible first | exact Below.refl _ _ | apply bA_ | apply bN_ | apply bD_)))⟩, ⟨by (with_reducible repeat (first | refine kN_ ?_ _ | refine kD_ ?_ | refine kA_ ?_ _)); exact BK114.out⟩, ⟨by first | exact HI2.out | exact hIb _ _ _ _ HI2.out (by repeat (first | (with_reducible first | exact Below.refl _ _ | apply bA_ | apply bN_ | apply bD_)))⟩, ⟨⟨rfl, Nat.zero_le _⟩⟩, ⟨by first | exact HT2.out | exact HT2.out.trans (TK.below (by repeat (first | (with_reducible first | exact Below.refl _ _ | apply bA_ | apply bN_ | apply bD_))))⟩⟩
 case round =>
  clear H' HI2 HV2 HT2
  obtain ⟨x0_1, x15_1, i, x115000_1, x115001_1, x115002_1, rfl, HA, HK1, HV, BK114, HI, HL, HT⟩ := hrel
  have HM := a0_ (Below.refl wr.heap.size wr)
  have HB0 := a0_ (hI0 _ _ _ HI.out)
  cases gk with
  | zero => exact absurd HA.out (by simp [merge_each.l0])
  | succ k1 =>
   have H := HA.out
   clear HA
   simp only [merge_each.l0] at H
   by_cases c4 : x15_1 < (l1.length : Int)
   ·rw [if_pos c4] at H
    have c4b0 : decide (x15_1 < (l1.length : Int)) = true := decide_eq_true c4
    have c4n : i < l1.length := by have h_ := HL.out.1; omega
    clear c4
    by_cases c5 : 0 ≤ x15_1
    ·rw [if_pos c5] at H
     have c5b0 : decide (0 ≤ x15_1) = true := decide_eq_true c5
     clear c5
     by_cases c6 : x15_1 < (l1.length : Int)
     ·rw [if_pos c6] at H
      have c6b0 : decide (x15_1 < (l1.length : Int)) = true := decide_eq_true c6
      clear c6
      replace H := ob_ H
      obtain ⟨⟨t116, t119, t120, t121⟩, A70, H⟩ := H
      replace H : (if (!(t119 == 0) || (!(t120 == 0) || (!(t121 == 0)))) = true then (some (([] : List (S36)), x15_1, t119, t120, t121)) else ((merge_Net_1.f x0_1 (rd_L4 l1 x15_1)).bind fun _ => (merge_each.l0 k1 t116 l1 (l1.length : Int) (wrap64 (x15_1 + 1))))) = some (r1, r2, r3, r4, r5) := H
      have A7 := a0_ A70
      clear A70
      have p115 : 0 ≤ (x15_1 : Int) := od_ (by first | (with_reducible assumption) | assumption)
      have q115 : x15_1 < (l1.length : Int) := od_ (by first | (with_reducible assumption) | assumption)
      obtain ⟨ad115, A115_0, c115_0, e115, hx115_0, hl115_0, hi115_0⟩ := at_L4 HR1.out x15_1 p115 q115
      cases e115
      replace hx115_0 := (HB0.out.cell (bl_ w0 _ hx115_0)).trans hx115_0
      have HR115_0 := a0_ (Kd.C_below hi115_0 HB0.out)
      have HC115_0 := a0_ hl115_0
      have eL : rd_L4 l1 x15_1 = l1[i] := by
       rw [HL.out.1]
       unfold rd_L4
       rw [List.getD_eq_getElem?_getD, Int.toNat_natCast, List.getElem?_eq_getElem c4n]
       rfl
      have hLi : Aside0 (l1[i]? = some (rd_L4 l1 x15_1)) := ⟨by rw [eL]; exact List.getElem?_eq_getElem c4n⟩
      clear hi115_0 hl115_0 eL
      replace p115 := eq_true p115
      replace q115 := eq_true q115
      obtain ⟨Ao9, co9, eo9, hl9_, hC9_⟩ := KP_read HV.out HB0.out
      have HL9 := a0_ hl9_
      have HC9 := a0_ hC9_
      clear hl9_ hC9_
      subst eo9
      by_cases c8 : (!(t119 == 0) || (!(t120 == 0) || (!(t121 == 0)))) = true
      ·rw [if_pos c8] at H
       have c8b0 : (!(t119 == 0) || (!(t120 == 0) || (!(t121 == 0)))) = true := c8
       have C8 := a0_ c8
       clear c8
       simp only [Option.some.injEq, Prod.mk.injEq] at H
       obtain ⟨rfl, rfl, rfl, rfl, rfl⟩ := H
       go_wp2_with (first | ((with_reducible refine gate_callee (f := 32) rfl ?_); refine goesL_ (some 23) rfl rfl Try.func32 (by kernel_rfl) rfl #[.slice Ao9 x0_1.length co9, .slice A115_0 (rd_L4 l1 x15_1).length c115_0] rfl (by (try simp only [List.map_toArray, List.map_cons, List.map_nil]); first | done | rfl | (simp only [List.length_drop, List.length_take]; rfl)) ?_; (with_reducible refine (trial_Apply.calls k1 _ _ x0_1 _ _ (rd_L4 l1 x15_1) t116 t119 t120 t121 _ ?side1 ?side2 ?side3 ?side4 A7.out).mono ?_); (case side1 => exact Kd.C_below HC9.out (by repeat (first | (with_reducible first | exact HM.out | apply bA_ | apply bN_ | apply bD_) | exact HM.out))); (case side2 => exact HL9.out); (case side3 => exact Kd.C_below HR115_0.out (by repeat (first | (with_reducible first | exact HM.out | apply bA_ | apply bN_ | apply bD_) | exact HM.out))); (case side4 => exact HC115_0.out); rintro e w10 ⟨v117, rfl, ho0, hb⟩; refine ⟨_, rfl, ?_⟩; have n0_ := a0_ (bT_ (by repeat (first | (with_reducible first | exact HM.out | apply bA_ | apply bN_ | apply bD_) | exact HM.out)) hb); clear HM; have HM := n0_; clear n0_ hb ho0) | ((with_reducible refine gate_dst (N := 12) rfl ?_); refine box_event ?hg (N := 12) ?hd (cs := #[.int .i64 0, .int .i64 0, .int .i64 0]) (t := 30) ?hr ?_; (case hd => rfl); (case hg => rfl); (case hr => first | (go_simp; done) | (go_simp; rfl)); intro gb122 hg w11 hbox hb; have n0_ := a0_ (bT_ (by repeat (first | (with_reducible first | exact HM.out | apply bA_ | apply bN_ | apply bD_) | exact HM.out)) hb); have GE122 := a0_ ((by rw [hg]; exact (bZ_ (by repeat (first | (with_reducible first | exact HM.out | apply bA_ | apply bN_ | apply bD_) | exact HM.out))) : wr.heap.size ≤ gb122)); have BK122 := a0_ (hbox); clear HM; have HM := n0_; clear n0_; have NB114_122 := a0_ (Nat.ne_of_lt (Nat.lt_of_lt_of_le (Array.getElem?_eq_some_iff.mp BK114.out).1 GE122.out) : gb114 ≠ gb122); have NB122_114 := a0_ (Ne.symm NB114_122.out); clear hb hbox hg; have hcz13_0 : w11.cell? ⟨gb122, 0, none⟩ = some (.int .i64 0) := (blk_cell BK122.out 0).trans rfl; have hcz13_1 : w11.cell? ⟨gb122, 1, none⟩ = some (.int .i64 0) := (blk_cell BK122.out 1).trans rfl; have hcz13_2 : w11.cell? ⟨gb122, 2, none⟩ = some (.int .i64 0) := (blk_cell BK122.out 2).trans rfl; have hfz13_0 := kF_ BK122.out 0; have hfz13_1 := kF_ BK122.out 1; have hfz13_2 := kF_ BK122.out 2))
       have n3_ : Aside0 ((((w11.setCell ⟨gb122, 0, none⟩ (.int .i64 t119)).setCell ⟨gb122, 1, none⟩ (.int .i64 t120)).setCell ⟨gb122, 2, none⟩ (.int .i64 t121)).heap[gb122]? = some (.cells #[.int .i64 t119, .int .i64 t120, .int .i64 t121] 30 (0, 0))) := ⟨blk_put (blk_put (blk_put BK122.out 0 _ rfl) 1 _ rfl) 2 _ rfl⟩
       have n4_ : Aside0 (Below wr.heap.size wr (((w11.setCell ⟨gb122, 0, none⟩ (.int .i64 t119)).setCell ⟨gb122, 1, none⟩ (.int .i64 t120)).setCell ⟨gb122, 2, none⟩ (.int .i64 t121))) := ⟨bS_ (bS_ (bS_ HM.out GE122.out) GE122.out) GE122.out⟩
       clear BK122 HM
       generalize (((w11.setCell ⟨gb122, 0, none⟩ (.int .i64 t119)).setCell ⟨gb122, 1, none⟩ (.int .i64 t120)).setCell ⟨gb122, 2, none⟩ (.int .i64 t121)) = w14 at n3_ n4_ ⊢
       have BK122 := n3_
       have HM := n4_
       clear n3_ n4_
       have n3_ := a0_ (kD_ BK122.out)
       have n4_ := a0_ (bD_ HM.out)
       clear BK122 HM
       have BK122 := n3_
       have HM := n4_
       clear n3_ n4_
       refine start_ (n := 5) (S := fun w' => w'.cell? ⟨gb122, 0, none⟩ = some (.int .i64 t119) ∧ w'.cell? ⟨gb122, 1, none⟩ = some (.int .i64 t120) ∧ w'.cell? ⟨gb122, 2, none⟩ = some (.int .i64 t121)) (ds := []) #[false, false, false, false, false] (by kernel_rfl) rfl rfl ⟨(blk_cell BK122.out 0).trans rfl, (blk_cell BK122.out 1).trans rfl, (blk_cell BK122.out 2).trans rfl⟩ (fun hHeld => ?_)
       generalize w14.drew = w15 at BK122 HM hHeld ⊢
       refine pure_ (i := 0) (N := some 29) (v := ?_) (a' := ?_) #[true, false, false, false, false] rfl rfl (by kernel_rfl) (fun _ _ _ h => h) (Or.inl ⟨by rfl, ?_⟩) ?_ ?_
       rotate_left
       ·intro w'
        go_simp
        with_reducible rfl
       rotate_left
       ·simp only [ps_]
        rfl
       refine pure_ (i := 2) (N := some 6) (v := ?_) (a' := ?_) #[true, false, true, false, false] rfl rfl (by kernel_rfl) (fun _ _ _ h => h) (Or.inl ⟨by rfl, ?_⟩) ?_ ?_
       rotate_left
       ·intro w'
        go_simp
        with_reducible rfl
       rotate_left
       ·simp only [ps_]
        rfl
       refine pure_ (i := 3) (N := some 7) (v := ?_) (a' := ?_) #[true, false, true, true, false] rfl rfl (by kernel_rfl) (fun _ _ _ h => h) (Or.inl ⟨by rfl, ?_⟩) ?_ ?_
       rotate_left
       ·intro w'
        go_simp
        with_reducible rfl
       rotate_left
       ·simp only [ps_]
        rfl
       refine take_ (i := 1) (N := some 30) (v := ?_) (a' := ?_) #[true, true, true, true, false] rfl rfl (by kernel_rfl) (fun _ _ _ h => h) (Or.inl ⟨by rfl, ?_⟩) hHeld ?_ ?_
       rotate_left
       ·rintro w' ⟨s0, s1, s2⟩
        go_simp
        with_reducible rfl
       rotate_left
       ·simp only [ps_]
        rfl
       refine one_ (i := 4) (N := none) #[true, true, true, true, true] rfl rfl (by kernel_rfl) (by decide) (fun K hK => ?_)
       have BK114b := a0_ (kB_ BK114.out HM.out)
       have hs16 : w15.cell? ⟨gb114, 0, none⟩ = some (.int .i64 x115000_1) := (blk_cell BK114b.out 0).trans rfl
       have hfs16 := kF_ BK114b.out 0
       have hns16_1 := NB122_114.out
       have hms16_1 := NB114_122.out
       have hs17 : w15.cell? ⟨gb114, 1, none⟩ = some (.int .i64 x115001_1) := (blk_cell BK114b.out 1).trans rfl
       have hfs17 := kF_ BK114b.out 1
       have hs18 : w15.cell? ⟨gb114, 2, none⟩ = some (.int .i64 x115002_1) := (blk_cell BK114b.out 2).trans rfl
       have hfs18 := kF_ BK114b.out 2
       refine skip_ (w1 := ?_) (by rfl) rfl ?_ ?_
       rotate_left
       ·go_simp
        rfl
       refine hK.out _ _ ⟨((cell_far (p := ⟨gb114, _, none⟩) NB122_114.out _).trans (((cell_far (p := ⟨gb114, _, none⟩) NB122_114.out _).trans (((cell_far (p := ⟨gb114, _, none⟩) NB122_114.out _).trans (hHeld.1)))))), ((cell_far (p := ⟨gb114, _, none⟩) NB122_114.out _).trans (((cell_far (p := ⟨gb114, _, none⟩) NB122_114.out _).trans (((cell_far (p := ⟨gb114, _, none⟩) NB122_114.out _).trans (hHeld.2.1)))))), ((cell_far (p := ⟨gb114, _, none⟩) NB122_114.out _).trans (((cell_far (p := ⟨gb114, _, none⟩) NB122_114.out _).trans (((cell_far (p := ⟨gb114, _, none⟩) NB122_114.out _).trans (hHeld.2.2))))))⟩ (fun hHeld => ?_)
       clear hK K
       refine done_ (by kernel_rfl) ?_
       try go_wp2
       refine bodyPost_ret (results_list (rs := [.tmp 6, .tmp 7, .cell 8 30]) rfl (by simp) (.tmp (.tmp (.cell gb114 30 #[.int .i64 t119, .int .i64 t120, .int .i64 t121] (0, 0) _ rfl (blk_put (blk_put (blk_put BK114b.out 0 _ rfl) 1 _ rfl) 2 _ rfl) Try.underlying30 rfl (by kernel_rfl) .nil)))) rfl ?_
       exact ⟨_, by first | rfl | (simp [errW_none, errW_some] <;> rfl) | (simp [*, errW_none, errW_some] <;> rfl), below_set (bS_ (bS_ (bT_ HB0.out HM.out) GE114.out) GE114.out) GE114.out, (((HT.out.trans (TK.below HM.out)).new GW114.out).new GW114.out).new GW114.out, fun h_ => by rw [C8.out] at h_; exact absurd h_ (by decide)⟩
      ·rw [if_neg c8] at H
       have c8b0 : (!(t119 == 0) || (!(t120 == 0) || (!(t121 == 0)))) = false := by simpa using c8
       have z8 : Aside0 (t119 = 0 ∧ t120 = 0 ∧ t121 = 0) := ⟨by have h_ := c8b0; simp at h_; exact h_⟩
       clear c8
       replace H := ob_ H
       obtain ⟨_, A190, H⟩ := H
       replace H : (merge_each.l0 k1 t116 l1 (l1.length : Int) (wrap64 (x15_1 + 1))) = some (r1, r2, r3, r4, r5) := H
       clear A190
       have H' := a0_ H
       clear H
       go_wp2_with (first | ((with_reducible refine gate_callee (f := 32) rfl ?_); refine goesL_ (some 23) rfl rfl Try.func32 (by kernel_rfl) rfl #[.slice Ao9 x0_1.length co9, .slice A115_0 (rd_L4 l1 x15_1).length c115_0] rfl (by (try simp only [List.map_toArray, List.map_cons, List.map_nil]); first | done | rfl | (simp only [List.length_drop, List.length_take]; rfl)) ?_; (with_reducible refine (trial_Apply.calls k1 _ _ x0_1 _ _ (rd_L4 l1 x15_1) t116 t119 t120 t121 _ ?side1 ?side2 ?side3 ?side4 A7.out).mono ?_); (case side1 => exact Kd.C_below HC9.out (by repeat (first | (with_reducible first | exact HM.out | apply bA_ | apply bN_ | apply bD_) | exact HM.out))); (case side2 => exact HL9.out); (case side3 => exact Kd.C_below HR115_0.out (by repeat (first | (with_reducible first | exact HM.out | apply bA_ | apply bN_ | apply bD_) | exact HM.out))); (case side4 => exact HC115_0.out); rintro e w10 ⟨v117, rfl, ho0, hb⟩; refine ⟨_, rfl, ?_⟩; have HO118 := a0_ (Kd.R_lower ho0 (bZ_ (bT_ HB0.out (by repeat (first | (with_reducible first | exact HM.out | apply bA_ | apply bN_ | apply bD_) | exact HM.out))))); have n0_ := a0_ (bT_ (by repeat (first | (with_reducible first | exact HM.out | apply bA_ | apply bN_ | apply bD_) | exact HM.out)) hb); clear HM; have HM := n0_; clear n0_ hb ho0) | ((with_reducible refine gate_dst (N := 12) rfl ?_); refine box_event ?hg (N := 12) ?hd (cs := #[.int .i64 0, .int .i64 0, .int .i64 0]) (t := 30) ?hr ?_; (case hd => rfl); (case hg => rfl); (case hr => first | (go_simp; done) | (go_simp; rfl)); intro gb122 hg w11 hbox hb; have n0_ := a0_ (bT_ (by repeat (first | (with_reducible first | exact HM.out | apply bA_ | apply bN_ | apply bD_) | exact HM.out)) hb); have n1_ := a0_ (Kd.R_below (by (with_reducible repeat (first | apply Kd.R_alloc | apply Kd.R_drewN | apply Kd.R_drew)); exact HO118.out) hb); have GE122 := a0_ ((by rw [hg]; exact (bZ_ (by repeat (first | (with_reducible first | exact HM.out | apply bA_ | apply bN_ | apply bD_) | exact HM.out))) : wr.heap.size ≤ gb122)); have BK122 := a0_ (hbox); clear HM HO118; have HM := n0_; have HO118 := n1_; clear n0_ n1_; have NB114_122 := a0_ (Nat.ne_of_lt (Nat.lt_of_lt_of_le (Array.getElem?_eq_some_iff.mp BK114.out).1 GE122.out) : gb114 ≠ gb122); have NB122_114 := a0_ (Ne.symm NB114_122.out); clear hb hbox hg; have hcz13_0 : w11.cell? ⟨gb122, 0, none⟩ = some (.int .i64 0) := (blk_cell BK122.out 0).trans rfl; have hcz13_1 : w11.cell? ⟨gb122, 1, none⟩ = some (.int .i64 0) := (blk_cell BK122.out 1).trans rfl; have hcz13_2 : w11.cell? ⟨gb122, 2, none⟩ = some (.int .i64 0) := (blk_cell BK122.out 2).trans rfl; have hfz13_0 := kF_ BK122.out 0; have hfz13_1 := kF_ BK122.out 1; have hfz13_2 := kF_ BK122.out 2) | (go_at_call 27; have HM2 := a0_ (bS_ (bS_ (bS_ HM.out GE122.out (v := .int .i64 t119) (j := 0)) GE122.out (v := .int .i64 t120) (j := 1)) GE122.out (v := .int .i64 t121) (j := 2)); have HO119 := a0_ (Kd.R_set (Kd.R_set (Kd.R_set HO118.out BK122.out (by decide) 0 (.int .i64 t119)) (blk_put BK122.out 0 _ rfl) (by decide) 1 (.int .i64 t120)) (blk_put (blk_put BK122.out 0 _ rfl) 1 _ rfl) (by decide) 2 (.int .i64 t121)); refine (hstep i x0_1 (rd_L4 l1 x15_1) t116 k1 _ Ao9 co9 A115_0 c115_0 (hIb _ _ _ _ HI.out HM2.out) hLi.out ?aA (Kd.C_below HC9.out HM2.out) HL9.out (KP_below HV.out HM2.out) (Kd.C_below HR115_0.out HM2.out) HC115_0.out).mono ?_; (case aA => have e_ := A7.out; rw [z8.out.1, z8.out.2.1, z8.out.2.2] at e_; exact e_); rintro e w20 ⟨rfl, hI2, htk⟩; have HI3 := a0_ hI2; have HT3 := a0_ ((HT.out.trans (TK.below HM2.out)).trans htk); have HO120 := a0_ (R_tk HO119.out (fun q hq => by rw [show k36.E = [] from rfl, List.mem_singleton] at hq; exact hq ▸ hT36) htk); have BK3 := a0_ (htk.bl _ _ _ (kB_ BK114.out HM2.out) hT30); clear hI2 htk HO118 HO119 HM HM2))
       go_roundg k1
       case measure => have := HK1.out; omega
       case rel => exact ⟨(t116), (wrap64 (x15_1 + 1)), i + 1, (x115000_1), (x115001_1), (x115002_1), (by first | rfl | (simp; done) | (simp [*]; done)), H', ⟨by have := HK1.out; omega⟩, ⟨KP_made (Kd.R_mono HO120.out (fun _ _ => trivial))⟩, ⟨BK3.out⟩, ⟨HI3.out⟩, ⟨by have h1_ := HL.out.1; have h2_ := c4n; have h3_ := hl1m; exact ⟨by unfold wrap64; omega, by omega⟩⟩, ⟨HT3.out⟩⟩
     ·rw [if_neg c6] at H
      exact absurd H (by simp)
    ·rw [if_neg c5] at H
     exact absurd H (by simp)
   ·rw [if_neg c4] at H
    have c4b0 : decide (x15_1 < (l1.length : Int)) = false := decide_eq_false c4
    have ei : i = l1.length := by have h_ := HL.out.1; have h2_ := HL.out.2; omega
    clear c4
    simp only [Option.some.injEq, Prod.mk.injEq] at H
    obtain ⟨rfl, rfl, rfl, rfl, rfl⟩ := H
    have hcz25_0 : wr.cell? ⟨gb114, 0, none⟩ = some (.int .i64 x115000_1) := (blk_cell BK114.out 0).trans rfl
    have hcz25_1 : wr.cell? ⟨gb114, 1, none⟩ = some (.int .i64 x115001_1) := (blk_cell BK114.out 1).trans rfl
    have hcz25_2 : wr.cell? ⟨gb114, 2, none⟩ = some (.int .i64 x115002_1) := (blk_cell BK114.out 2).trans rfl
    have hfz25_0 := kF_ BK114.out 0
    have hfz25_1 := kF_ BK114.out 1
    have hfz25_2 := kF_ BK114.out 2
    go_wp2
    refine bodyPost_ret (results_list (rs := [.tmp 6, .tmp 7, .cell 8 30]) rfl (by simp) (.tmp (.tmp (.cell gb114 30 #[.int .i64 0, .int .i64 0, .int .i64 0] (0, 0) _ rfl (blk_put (blk_put (blk_put BK114.out 0 _ rfl) 1 _ rfl) 2 _ rfl) Try.underlying30 rfl (by kernel_rfl) .nil)))) rfl ?_
    exact ⟨_, by first | rfl | (simp [errW_none, errW_some] <;> rfl) | (simp [*, errW_none, errW_some] <;> rfl), below_set (bS_ (bS_ HB0.out GE114.out) GE114.out) GE114.out, ((HT.out.new GW114.out).new GW114.out).new GW114.out, fun _ => ⟨KP_set (KP_set (KP_set HV.out BK114.out (by decide) 0 _) (blk_put BK114.out 0 _ rfl) (by decide) 1 _) (blk_put (blk_put BK114.out 0 _ rfl) 1 _ rfl) (by decide) 2 _, ei ▸ hIf _ _ _ _ _ _ _ (hIf _ _ _ _ _ _ _ (hIf _ _ _ _ _ _ _ HI.out BK114.out GE114.out) (blk_put BK114.out 0 _ rfl) GE114.out) (blk_put (blk_put BK114.out 0 _ rfl) 1 _ rfl) GE114.out⟩⟩
end Go.Proofs.Ytclcnglamlegiaa.Each
namespace Go.Proofs.Ytclcnglamlegiaa.Each
open Go Go.RowKit Go.Proofs.YtclcnglamlegiaaW.PrintWords Go.Proofs.YtclcnglamlegiaaW.PrintLast Go.Proofs.YtclcnglamlegiaaW.PrintMore Go.Proofs.Ytclcnglamlegiaa.PMR
set_option linter.unusedVariables false
set_option linter.unusedSimpArgs false
structure RS (P : Nat → Prop) (w0 w : World) (go : Nat) (vo : Value) (out : List (List S36)) : Prop where
 hO : w.heap[go]? = some (.cells #[vo] 43 (0, 0))
 ho : Kd.R (KP P w0) 22 w w0.heap.size (fun _ => True) vo out
 hb : Below w0.heap.size w0 w
 lo : w0.heap.size ≤ go
def TR (t : Nat) : Prop := t = 43 ∨ t = 22
theorem kpE (P : Nat → Prop) (w0 : World) : (KP P w0).E = [36] := rfl
namespace RS
variable {P : Nat → Prop} {w0 w w1 : World} {go : Nat} {vo : Value} {out : List (List S36)}
theorem below (h : RS P w0 w go vo out) (hb : Below w.heap.size w w1) : RS P w0 w1 go vo out :=
 ⟨kB_ h.hO hb, Kd.R_below h.ho hb, below_step h.hb hb, h.lo⟩
theorem inE {t : Nat} (h : t ≠ 22) (h2 : t ≠ 36) : ∀ q, q ∈ 22 :: (KP P w0).E → q ≠ t := fun q hq => by
 rw [kpE] at hq
 rcases List.mem_cons.mp hq with rfl | hq
 ·exact Ne.symm h
 ·rw [List.mem_singleton.mp hq]
  exact Ne.symm h2
theorem far (h : RS P w0 w go vo out) {g : Nat} {cs : Array Value} (hg : w.heap[g]? = some (.cells cs 30 (0, 0))) (hl : w0.heap.size ≤ g) (j : Nat) (u : Value) : RS P w0 (w.setCell ⟨g, j, none⟩ u) go vo out :=
 ⟨blk_far h.hO (blk_ne h.hO hg (by decide)) u, Kd.R_set h.ho hg (inE (by decide) (by decide)) j u, below_set h.hb hl, h.lo⟩
end RS
set_option maxHeartbeats 8000000 in
set_option maxRecDepth 100000 in
theorem rstep (P : Nat → Prop) (w0 w : World) (go : Nat) (vo : Value) (out : List (List S36)) (xs : List S36) (A : Option Addr) (c : Nat) (A' : Option Addr) (n' c' : Nat) (hS : RS P w0 w go vo out) (hC : Kd.C k36 w A xs.length xs) (hc : xs.length ≤ c) (hl : xs.length < 4398046511104) (hn : out.length < 1000000) :
  Calls Try.prog 27 #[.slice A xs.length c, .slice A' n' c', .pointer (some ⟨go, 0, none⟩)] w fun e w' => e = .returned (.tuple #[]) ∧ ∃ vo2 : Value, RS P w0 w' go vo2 (out ++ [xs]) ∧ TK TR w w' := by
 have H0 := a0_ hS
 have HC := a0_ hC
 have HL := a0_ hc
 have HN := a0_ hn
 have HF : Aside0 (api_File.f xs = some xs) := ⟨by unfold api_File.f; rw [if_pos hl]⟩
 clear hS hC hc hl hn
 go_enter Try.func27, Try.ntmps27
 refine start_ (n := 6) (S := fun w' => w'.cell? ⟨go, 0, none⟩ = some vo) (ds := [5]) #[false, false, false, false, false, false] (by kernel_rfl) rfl rfl ((blk_cell H0.out.hO 0).trans rfl) (fun hHeld => ?_)
 have H1 := a0_ (H0.out.below (bD_ (Below.refl _ _)))
 have T1 := a0_ (TK.below (T := TR) (bD_ (Below.refl w.heap.size w)))
 have HC1 := a0_ (Kd.C_below HC.out (bD_ (Below.refl _ _)))
 generalize w.drew = w1 at H1 T1 HC1 hHeld ⊢
 refine pure_ (i := 1) (N := some 6) (v := ?_) (a' := ?_) #[false, true, false, false, false, false] rfl rfl (by kernel_rfl) (fun _ _ _ h => h) (Or.inl ⟨by rfl, ?_⟩) ?_ ?_
 rotate_left
 ·intro w'
  go_simp
  with_reducible rfl
 rotate_left
 ·simp only [ps_]
  rfl
 refine take_ (i := 0) (N := some 5) (v := ?_) (a' := ?_) #[true, true, false, false, false, false] rfl rfl (by kernel_rfl) (fun _ _ _ h => h) (Or.inl ⟨by rfl, ?_⟩) hHeld ?_ ?_
 rotate_left
 ·intro w' s0
  go_simp
  with_reducible rfl
 rotate_left
 ·simp only [ps_]
  rfl
 refine one_ (i := 2) (N := some 7) #[true, true, true, false, false, false] rfl rfl (by kernel_rfl) (by decide) (fun K hK => ?_)
 refine goes_ Try.func28 (by kernel_rfl) rfl #[.slice A xs.length c] (by rfl) rfl rfl (by (try simp only [List.map_toArray, List.map_cons, List.map_nil]); first | done | rfl | (simp only [List.length_drop, List.length_take]; rfl)) ?_
 refine (api_File.calls _ _ xs xs _ ?side1 ?side2 HF.out).mono ?_
 (case side1 => exact HC1.out)
 (case side2 => exact HL.out)
 rintro e w2 ⟨v2, rfl, ho, hb⟩
 refine ⟨_, rfl, ?_⟩
 have H2 := a0_ (H1.out.below hb)
 have T2 := a0_ (T1.out.trans (TK.below (T := TR) hb))
 have V2 := a0_ (KP_made (P := P) (w0 := w0) (Kd.R_lower ho (H1.out.hb.size)))
 obtain ⟨A2, c2, ev2⟩ := Kd.R_slice ho
 subst ev2
 refine hK.out _ _ ((blk_cell H2.out.hO 0).trans rfl) (fun hHeld => ?_)
 clear hK K ho hb
 refine norm_ (a' := ?_) ?_ ?_
 rotate_left
 ·show Act.put _ (some 7) _ = _
  simp only [ps_]
  rfl
 refine one_ (i := 3) (N := some 8) #[true, true, true, true, false, false] rfl rfl (by kernel_rfl) (by decide) (fun K hK => ?_)
 refine value_ (w1 := ?_) (v := ?_) (by rfl) rfl ?_ ?_
 rotate_left 2
 ·go_simp
  constructor
  ·rfl
  ·rfl
 refine hK.out _ _ ((blk_cell (kA_ H2.out.hO _) 0).trans rfl) (fun hHeld => ?_)
 clear hK K
 refine norm_ (a' := ?_) ?_ ?_
 rotate_left
 ·show Act.put _ (some 8) _ = _
  simp only [ps_]
  rfl
 refine one_ (i := 4) (N := some 9) #[true, true, true, true, true, false] rfl rfl (by kernel_rfl) (by decide) (fun K hK => ?_)
 have HP2 : Aside0 ((KP P w0).M w2 w0.heap.size (fun k => some k ≠ vo.ownBlock) xs [.slice A2 xs.length c2]) := ⟨by
  cases hg : vo.ownBlock with
  | none => exact (KP P w0).M_mono (fun _ _ => by simp) V2.out
  | some g =>
   obtain ⟨cells, hcl⟩ := Kd.R_typed H2.out.ho g hg
   exact (KP P w0).M_mono (fun k hk e => hk.2 (Option.some.inj e)) (Kd.M_types V2.out hcl (fun q hq => by rw [kpE, List.mem_singleton] at hq; rw [hq]; decide))⟩
 refine Kd.R_append_step (KP P w0) (w0 := w0) w0.heap.size (by rfl) (.tmp 5) (.tmp 8) 43 22 (.slice none 0 0) 24 rfl Try.underlying43 info22 rfl (show 0 < (KP P w0).sz from Nat.one_pos) (by omega) vo out xs [.slice A2 xs.length c2] (fun _ => True) (fun k => some k ≠ vo.ownBlock) rfl rfl ?aP (fun _ hk => ⟨trivial, hk⟩) ?aF ?aO ?aB ?aS ?aL ?_
 (case aP => exact HP2.out)
 (case aF => exact (fun _ _ => trivial))
 (case aO => exact H2.out.ho)
 (case aB => exact H2.out.hb)
 (case aS => exact H2.out.hb.size)
 (case aL => have := HN.out; omega)
 intro v3 w3 ho3 hb3 hg3 hat3
 have O3 := blk_grown H2.out.hO hg3 (Kd.R_ne H2.out.ho H2.out.hO (by decide))
 have T3 := a0_ (T2.out.grown (Kd.R_typed H2.out.ho) (.inr rfl) hg3)
 have H3 : Aside0 (RS P w0 (w3.setCell ⟨go, 0, none⟩ v3) go v3 (out ++ [xs])) := ⟨⟨blk_put O3 0 v3 rfl, Kd.R_set ho3 O3 (RS.inE (by decide) (by decide)) 0 v3, below_set hb3 H2.out.lo, H2.out.lo⟩⟩
 have T4 := a0_ (T3.out.set O3 (.inl rfl) 0 v3)
 have o3 := (blk_cell O3 0).trans rfl
 have f3 := kF_ O3 0
 refine hK.out _ _ o3 (fun hHeld2 => ?_)
 clear hK K
 refine norm_ (a' := ?_) ?_ ?_
 rotate_left
 ·show Act.put _ (some 9) _ = _
  simp only [ps_]
  rfl
 refine last_ (i := 5) (N := none) #[true, true, true, true, true, true] rfl rfl (by kernel_rfl) (by decide) (fun K hK => ?_)
 obtain ⟨A3_, c3_, ev_⟩ := Kd.R_slice ho3
 refine skip_ (w1 := w3.setCell ⟨go, 0, none⟩ v3) (by rfl) rfl ?_ ?_
 ·simp only [ev_]; first | (go_simp; done) | (go_simp; rfl)
 clear o3 f3 O3 ho3 hb3 hg3 hat3 hHeld hHeld2 ev_
 generalize w3.setCell ⟨go, 0, none⟩ v3 = w4 at H3 T4 ⊢
 refine hK.out _ _ ?_
 clear hK K
 refine done_ (by kernel_rfl) ?_
 try go_wp2
 go_end0
 exact ⟨rfl, _, H3.out, T4.out⟩
end Go.Proofs.Ytclcnglamlegiaa.Each
namespace Go.Proofs.Ytclcnglamlegiaa.Replay
open Go Go.RowKit Go.Proofs.YtclcnglamlegiaaW.PrintWords Go.Proofs.YtclcnglamlegiaaW.PrintLast Go.Proofs.YtclcnglamlegiaaW.PrintMore Go.Proofs.Ytclcnglamlegiaa.PMR Go.Proofs.Ytclcnglamlegiaa.Each
attribute [local go_sem] max2_int min2_int max_two min_two max_three min_three max_four min_four   -- for this text's walks alone
attribute [local go_sem high] eqA30
set_option linter.unusedVariables false
set_option linter.unusedSimpArgs false
def ahd (k : Nat) : List S36 → List (List S34) → Option (List (List S36))
 | _, [] => some []
 | a, L :: r => (trial_Apply.f k a L).bind fun t => (ahd k t.1 r).bind fun q => some (a :: q)
def f (k : Nat) (l0 : List S36) (l1 : List (List S34)) : Option (List (List S36) × Int × Int × Int × Int) :=
 if l1.length ≤ 1000000 then
  (merge_each.f k l0 l1).bind fun t => if (!(t.2.2.1 == 0) || (!(t.2.2.2.1 == 0) || (!(t.2.2.2.2 == 0)))) = true then some ([], t.2.1, t.2.2.1, t.2.2.2.1, t.2.2.2.2) else
   (ahd k l0 l1).bind fun out => if out.length = 0 then some ([], 0, 0, 0, 0) else some (out.drop 1 ++ [t.1], 0, 0, 0, 0)
 else none
theorem mono_ahd : ∀ (l1 : List (List S34)) (a : List S36) (k : Nat), LeO (ahd k a l1) (ahd (k + 1) a l1)
 | [], a, k => LeO.refl _
 | L :: r, a, k => by
  unfold ahd
  exact LeO.bind (trial_Apply.mono _ _ _) (fun _ => LeO.bind (mono_ahd r _ k) (fun _ => LeO.refl _))
theorem mono_f : ∀ a0 a1 k, LeO (f k a0 a1) (f (k + 1) a0 a1) := by
 intro a0 a1 k
 unfold f
 exact LeO.ite (LeO.bind (merge_each.mono _ _ _) (fun _ => LeO.ite (LeO.refl _) (LeO.bind (mono_ahd _ _ _) (fun _ => LeO.refl _)))) (LeO.refl _)
def Rch (l0 : List S36) (l1 : List (List S34)) : Nat → List S36 → List (List S36) → Prop
 | 0, xs, out => xs = l0 ∧ out = []
 | i + 1, xs, out => ∃ ys q L k, Rch l0 l1 i ys q ∧ l1[i]? = some L ∧ trial_Apply.f k ys L = some (xs, 0, 0, 0) ∧ out = q ++ [ys]
theorem app_same {k k' : Nat} {a : List S36} {L : List S34} {t u : List S36 × Int × Int × Int} (h : trial_Apply.f k a L = some t) (h' : trial_Apply.f k' a L = some u) : t = u := by
 have h1 := at_rounds (trial_Apply.mono a L) (Nat.le_max_left k k') h
 have h2 := at_rounds (trial_Apply.mono a L) (Nat.le_max_right k k') h'
 exact Option.some.inj (h1.symm.trans h2)
theorem rch_ahd {k : Nat} {l0 : List S36} {l1 : List (List S34)} {out : List (List S36)} (h : ahd k l0 l1 = some out) : ∀ (i : Nat) (xs : List S36) (q : List (List S36)), i ≤ l1.length → Rch l0 l1 i xs q → ahd k xs (l1.drop i) = some (out.drop i) ∧ q = out.take i
 | 0, xs, q, _, hr => by
  obtain ⟨rfl, rfl⟩ := hr
  exact ⟨h, rfl⟩
 | i + 1, xs, q, hi, hrr => by
  obtain ⟨ys, q0, L, k', hr, hL, hA, rfl⟩ := hrr
  obtain ⟨h1, rfl⟩ := rch_ahd h i ys q0 (by omega) hr
  have hlt : i < l1.length := by omega
  rw [List.drop_eq_getElem_cons hlt] at h1
  have hL2 : l1[i] = L := by
   rw [List.getElem?_eq_getElem hlt] at hL
   exact Option.some.inj hL
  rw [hL2] at h1
  unfold ahd at h1
  obtain ⟨t, ht, h1⟩ := ob_ h1
  obtain rfl := app_same ht hA
  obtain ⟨q', hq', h1⟩ := ob_ h1
  injection h1 with h1
  have hlt2 : i < out.length := by
   have := congrArg List.length h1
   rw [List.length_drop, List.length_cons] at this
   omega
  have h2 := List.drop_eq_getElem_cons hlt2
  rw [← h1] at h2
  injection h2 with h3 h4
  refine ⟨by rw [← h4]; exact hq', ?_⟩
  rw [List.take_succ_eq_append_getElem hlt2, h3]
theorem ahd_len {k : Nat} : ∀ {l1 : List (List S34)} {a : List S36} {out : List (List S36)}, ahd k a l1 = some out → out.length = l1.length
 | [], a, out, h => by
  injection h with h
  rw [← h]
  rfl
 | L :: r, a, out, h => by
  unfold ahd at h
  obtain ⟨t, _, h⟩ := ob_ h
  obtain ⟨q, hq, h⟩ := ob_ h
  injection h with h
  rw [← h, List.length_cons, List.length_cons, ahd_len hq]
theorem app_len {k : Nat} {a : List S36} {L : List S34} {t : List S36 × Int × Int × Int} (h : trial_Apply.f k a L = some t) : a.length ≤ 1000000 := by
 change (if a.length ≤ 1000000 ∧ L.length ≤ 1000000 then _ else none) = some t at h
 by_cases c : a.length ≤ 1000000 ∧ L.length ≤ 1000000
 ·exact c.1
 ·rw [if_neg c] at h
  cases h
def I (P : Nat → Prop) (w0 : World) (go : Nat) (l0 : List S36) (l1 : List (List S34)) (i : Nat) (xs : List S36) (w : World) : Prop :=
 ∃ vo out, RS P w0 w go vo out ∧ Rch l0 l1 i xs out ∧ out.length = i
theorem kp_row {P : Nat → Prop} {w0 w' : World} {A : Option Addr} {n c : Nat} {xs : List (List S36)} (h : (KP P w0).Q 22 w' w0.heap.size (fun _ => True) (.slice A n c) xs) (hb : Below w0.heap.size w0 w') : Kd.V (Kd.slice 36 k36) 22 w' w0.heap.size (fun k_ => (P k_ ∨ w0.heap.size ≤ k_)) (.slice A n c) xs := by
 obtain ⟨hn, hl, _⟩ := Kd.Q_reads' h
 subst hn
 have h2 := Kd.Q_F (Kd.Q_mono (Kd.Q_bound h) (fun k hk => hk.2.1))
 refine Kd.V_mk hl (fun W' hW => ?_)
 have h3 := h2 W' (fun k hk hlt => hW k (.inr hk) hlt)
 refine Kd.C_read (d := Kd.slice 36 k36) (dm := KP P w0) rfl (fun x cs hk => ?_) h3
 rcases hk with ⟨A', c', e, hl', hF⟩ | hk
 ·refine ⟨A', c', e, hl', hF W' (fun k hP hlt => ?_)⟩
  exact (hW k (.inl hP) (Nat.lt_of_lt_of_le hlt hb.size)).trans (hb.block k hlt)
 ·exact hk
set_option maxHeartbeats 8000000 in
set_option maxRecDepth 100000 in
theorem calls (k : Nat) (P0_ : Nat → Prop) (A0 : Option Addr) (c0 : Nat) (l0 : List S36) (A1 : Option Addr) (c1 : Nat) (l1 : List (List S34)) (r1 : List (List S36)) (r2 r3 r4 r5 : Int) (w : World) (hs0 : Kd.V k36 36 w w.heap.size (fun k_ => P0_ k_) (.slice A0 l0.length c0) l0) (hr1 : Kd.C (Kd.slice 34 k34) w A1 l1.length l1) (hc1 : l1.length ≤ c1) (h : f k l0 l1 = some (r1, r2, r3, r4, r5)) :
  Calls Try.prog 14 #[.slice A0 l0.length c0, .slice A1 l1.length c1] w fun e w' => ∃ v0_ : Value, e = .returned (.tuple #[v0_, .int .i64 r2, .agg #[.int .i64 r3, .int .i64 r4, .int .i64 r5]]) ∧ Kd.V (Kd.slice 36 k36) 22 w' w.heap.size (fun k_ => (P0_ k_ ∨ w.heap.size ≤ k_)) v0_ r1 ∧ Below w.heap.size w w' := by
 have hu30 := Try.underlying30
 have hu43 := Try.underlying43
 have hmf : ∀ (fn : Fn) (first cap : Array Value) (w : World), (Instr.makeFunc fn first cap).run Try.prog w = .ok (.func fn first cap) w := fun _ _ _ _ => rfl
 unfold f at h
 by_cases hll : l1.length ≤ 1000000
 case neg => rw [if_neg hll] at h; cases h
 rw [if_pos hll] at h
 obtain ⟨⟨t1, t2, t3, t4, t5⟩, hE, h⟩ := ob_ h
 have HE := a0_ hE
 have HLL := a0_ hll
 have HV0 := a0_ hs0
 have HR1 := a0_ hr1
 have HC1 := a0_ hc1
 have HH := a0_ h
 clear hs0 hr1 hc1 hE hll h
 have HB := a0_ (Below.refl w.heap.size w)
 go_enter Try.func14, Try.ntmps14
 go_wp2_with (first | ((with_reducible refine gate_dst (N := 6) rfl ?_); refine box_event ?hg (N := 6) ?hd (cs := #[.int .i64 0, .int .i64 0, .int .i64 0]) (t := 30) ?hr ?_; (case hd => rfl); (case hg => rfl); (case hr => first | (go_simp; done) | (go_simp; rfl)); intro g6 hg w1 hbox hb; have n0_ := a0_ (bT_ (by repeat (first | (with_reducible first | exact HB.out | apply bA_ | apply bN_ | apply bD_) | exact HB.out)) hb); have BK6 := a0_ hbox; have GE6 := a0_ ((by rw [hg]; exact (bZ_ HB.out)) : w.heap.size ≤ g6); clear HB; have HB := n0_; clear n0_ hb hbox hg) | ((with_reducible refine gate_dst (N := 7) rfl ?_); refine box_event ?hg (N := 7) ?hd (cs := #[.slice none 0 0]) (t := 43) ?hr ?_; (case hd => rfl); (case hg => rfl); (case hr => first | (go_simp; done) | (go_simp; rfl)); intro g7 hg w2 hbox hb; have n0_ := a0_ (bT_ (by repeat (first | (with_reducible first | exact HB.out | apply bA_ | apply bN_ | apply bD_) | exact HB.out)) hb); have n1_ := a0_ (kB_ (by (with_reducible repeat (first | refine kN_ ?_ _ | refine kD_ ?_ | refine kA_ ?_ _)); exact BK6.out) hb); have BK7 := a0_ hbox; have GE7 := a0_ ((by rw [hg]; exact (bZ_ (by repeat (first | (with_reducible first | exact HB.out | apply bA_ | apply bN_ | apply bD_) | exact HB.out)))) : w.heap.size ≤ g7); clear HB BK6; have HB := n0_; have BK6 := n1_; clear n0_ n1_ hb hbox hg))
 have HIw : Aside0 (I P0_ w g7 l0 l1 0 l0 w2) := ⟨⟨_, [], ⟨BK7.out, Kd.R_nil _ _ _ _ _, HB.out, GE7.out⟩, ⟨rfl, rfl⟩, rfl⟩⟩
 obtain ⟨_, hVl, hF⟩ := Kd.V_at HV0.out
 have HKP := a0_ (KP_came (P := P0_) (w := w2) (base := w.heap.size) (ok := fun _ => True) hVl hF)
 clear hVl hF
 refine (each27 g7 k P0_ TR (show ¬ (30 = 43 ∨ 30 = 22) from by decide) (show ¬ (36 = 43 ∨ 36 = 22) from by decide) w w2 _ l0 A1 c1 l1 t1 t2 t3 t4 t5 (I P0_ w g7 l0 l1) ?ib ?ifar ?i0 ?st HKP.out HR1.out HC1.out HIw.out HE.out).mono ?_
 (case ib => exact fun i xs w w' ⟨vo, out, hS, hR, hl⟩ hb => ⟨vo, out, hS.below hb, hR, hl⟩)
 (case ifar => exact fun i xs w g cs j u ⟨vo, out, hS, hR, hl⟩ hg hl' => ⟨vo, out, hS.far hg hl' j u, hR, hl⟩)
 (case i0 => exact fun i xs w ⟨vo, out, hS, hR, hl⟩ => hS.hb)
 (case st =>
  intro i xs L nxt k' w' A c A' c' hI hL hA hC hc _ _ _
  obtain ⟨vo, out, hS, hR, hl⟩ := hI
  refine (rstep P0_ w w' g7 vo out xs A c A' L.length c' hS hC hc (by have := app_len hA; omega) (by have h1_ := (List.getElem?_eq_some_iff.mp hL).1; have h2_ := HLL.out; omega)).mono ?_
  rintro e w'' ⟨he, vo2, hS2, ht⟩
  exact ⟨he, ⟨vo2, out ++ [xs], hS2, ⟨xs, out, L, k', hR, hL, hA, rfl⟩, by simp [hl]⟩, ht⟩)
 rintro e w3 ⟨v3, rfl, hb3, htk, hpost⟩
 have HP := a0_ hpost
 have n1_ := a0_ (htk.bl _ _ _ BK6.out (show ¬ (30 = 43 ∨ 30 = 22) from by decide))
 clear HB BK6 BK7 HIw HKP hpost htk
 have HB := a0_ hb3
 have BK6 := n1_
 clear n1_ hb3
 by_cases c8 : (!(t3 == 0) || (!(t4 == 0) || (!(t5 == 0)))) = true
 ·have HH2 := HH.out
  rw [if_pos c8] at HH2
  have c8b0 : (!(t3 == 0) || (!(t4 == 0) || (!(t5 == 0)))) = true := c8
  clear c8
  simp only [Option.some.injEq, Prod.mk.injEq] at HH2
  obtain ⟨rfl, rfl, rfl, rfl, rfl⟩ := HH2
  clear HH HP
  go_wp2_with (first | ((with_reducible refine gate_dst (N := 10) rfl ?_); refine box_event ?hg (N := 10) ?hd (cs := #[.int .i64 0, .int .i64 0, .int .i64 0]) (t := 30) ?hr ?_; (case hd => rfl); (case hg => rfl); (case hr => first | (go_simp; done) | (go_simp; rfl)); intro g10 hg w4 hbox hb; have n0_ := a0_ (bT_ (by repeat (first | (with_reducible first | exact HB.out | apply bA_ | apply bN_ | apply bD_) | exact HB.out)) hb); have n1_ := a0_ (kB_ (by (with_reducible repeat (first | refine kN_ ?_ _ | refine kD_ ?_ | refine kA_ ?_ _)); exact BK6.out) hb); have BK10 := a0_ hbox; have GE10 := a0_ ((by rw [hg]; exact (bZ_ (by repeat (first | (with_reducible first | exact HB.out | apply bA_ | apply bN_ | apply bD_) | exact HB.out)))) : w.heap.size ≤ g10); have NB6_10 := a0_ ((by rw [hg]; exact Nat.ne_of_lt (Array.getElem?_eq_some_iff.mp BK6.out).1) : g6 ≠ g10); have NB10_6 := a0_ (Ne.symm NB6_10.out); clear HB BK6; have HB := n0_; have BK6 := n1_; clear n0_ n1_ hb hbox hg; have hcz10_0 : w4.cell? ⟨g10, 0, none⟩ = some (.int .i64 0) := (blk_cell BK10.out 0).trans rfl; have hcz10_1 : w4.cell? ⟨g10, 1, none⟩ = some (.int .i64 0) := (blk_cell BK10.out 1).trans rfl; have hcz10_2 : w4.cell? ⟨g10, 2, none⟩ = some (.int .i64 0) := (blk_cell BK10.out 2).trans rfl; have hfz10_0 := kF_ BK10.out 0; have hfz10_1 := kF_ BK10.out 1; have hfz10_2 := kF_ BK10.out 2))
  have n2_ : Aside0 ((((w4.setCell ⟨g10, 0, none⟩ (.int .i64 t3)).setCell ⟨g10, 1, none⟩ (.int .i64 t4)).setCell ⟨g10, 2, none⟩ (.int .i64 t5)).heap[g6]? = some (.cells #[.int .i64 0, .int .i64 0, .int .i64 0] 30 (0, 0))) := ⟨blk_far (blk_far (blk_far BK6.out NB6_10.out _) NB6_10.out _) NB6_10.out _⟩
  have n3_ : Aside0 ((((w4.setCell ⟨g10, 0, none⟩ (.int .i64 t3)).setCell ⟨g10, 1, none⟩ (.int .i64 t4)).setCell ⟨g10, 2, none⟩ (.int .i64 t5)).heap[g10]? = some (.cells #[.int .i64 t3, .int .i64 t4, .int .i64 t5] 30 (0, 0))) := ⟨blk_put (blk_put (blk_put BK10.out 0 _ rfl) 1 _ rfl) 2 _ rfl⟩
  have n4_ : Aside0 (Below w.heap.size w (((w4.setCell ⟨g10, 0, none⟩ (.int .i64 t3)).setCell ⟨g10, 1, none⟩ (.int .i64 t4)).setCell ⟨g10, 2, none⟩ (.int .i64 t5))) := ⟨bS_ (bS_ (bS_ HB.out GE10.out) GE10.out) GE10.out⟩
  clear BK6 BK10 HB
  generalize (((w4.setCell ⟨g10, 0, none⟩ (.int .i64 t3)).setCell ⟨g10, 1, none⟩ (.int .i64 t4)).setCell ⟨g10, 2, none⟩ (.int .i64 t5)) = w14 at n2_ n3_ n4_ ⊢
  have BK6 := a0_ (kD_ n2_.out)
  have BK10 := a0_ (kD_ n3_.out)
  have HB := a0_ (bD_ n4_.out)
  clear n2_ n4_
  refine start_ (n := 5) (S := fun w' => w'.cell? ⟨g10, 0, none⟩ = some (.int .i64 t3) ∧ w'.cell? ⟨g10, 1, none⟩ = some (.int .i64 t4) ∧ w'.cell? ⟨g10, 2, none⟩ = some (.int .i64 t5)) (ds := []) #[false, false, false, false, false] (by kernel_rfl) rfl rfl ⟨(blk_cell n3_.out 0).trans rfl, (blk_cell n3_.out 1).trans rfl, (blk_cell n3_.out 2).trans rfl⟩ (fun hHeld => ?_)
  clear n3_
  generalize w14.drew = w15 at BK6 BK10 HB hHeld ⊢
  refine pure_ (i := 0) (N := some 22) (v := ?_) (a' := ?_) #[true, false, false, false, false] rfl rfl (by kernel_rfl) (fun _ _ _ h => h) (Or.inl ⟨by rfl, ?_⟩) ?_ ?_
  rotate_left
  ·intro w'
   go_simp
   with_reducible rfl
  rotate_left
  ·simp only [ps_]
   rfl
  refine pure_ (i := 2) (N := some 4) (v := ?_) (a' := ?_) #[true, false, true, false, false] rfl rfl (by kernel_rfl) (fun _ _ _ h => h) (Or.inl ⟨by rfl, ?_⟩) ?_ ?_
  rotate_left
  ·intro w'
   go_simp
   with_reducible rfl
  rotate_left
  ·simp only [ps_]
   rfl
  refine pure_ (i := 3) (N := some 5) (v := ?_) (a' := ?_) #[true, false, true, true, false] rfl rfl (by kernel_rfl) (fun _ _ _ h => h) (Or.inl ⟨by rfl, ?_⟩) ?_ ?_
  rotate_left
  ·intro w'
   go_simp
   with_reducible rfl
  rotate_left
  ·simp only [ps_]
   rfl
  refine take_ (i := 1) (N := some 23) (v := ?_) (a' := ?_) #[true, true, true, true, false] rfl rfl (by kernel_rfl) (fun _ _ _ h => h) (Or.inl ⟨by rfl, ?_⟩) hHeld ?_ ?_
  rotate_left
  ·rintro w' ⟨s0, s1, s2⟩
   go_simp
   with_reducible rfl
  rotate_left
  ·simp only [ps_]
   rfl
  refine one_ (i := 4) (N := none) #[true, true, true, true, true] rfl rfl (by kernel_rfl) (by decide) (fun K hK => ?_)
  have hs16 : w15.cell? ⟨g6, 0, none⟩ = some (.int .i64 0) := (blk_cell BK6.out 0).trans rfl
  have hfs16 := kF_ BK6.out 0
  have hns16_1 := NB10_6.out
  have hms16_1 := NB6_10.out
  have hs17 : w15.cell? ⟨g6, 1, none⟩ = some (.int .i64 0) := (blk_cell BK6.out 1).trans rfl
  have hfs17 := kF_ BK6.out 1
  have hs18 : w15.cell? ⟨g6, 2, none⟩ = some (.int .i64 0) := (blk_cell BK6.out 2).trans rfl
  have hfs18 := kF_ BK6.out 2
  refine skip_ (w1 := ?_) (by rfl) rfl ?_ ?_
  rotate_left
  ·go_simp
   rfl
  refine hK.out _ _ ⟨((cell_far (p := ⟨g6, _, none⟩) NB10_6.out _).trans (((cell_far (p := ⟨g6, _, none⟩) NB10_6.out _).trans (((cell_far (p := ⟨g6, _, none⟩) NB10_6.out _).trans (hHeld.1)))))), ((cell_far (p := ⟨g6, _, none⟩) NB10_6.out _).trans (((cell_far (p := ⟨g6, _, none⟩) NB10_6.out _).trans (((cell_far (p := ⟨g6, _, none⟩) NB10_6.out _).trans (hHeld.2.1)))))), ((cell_far (p := ⟨g6, _, none⟩) NB10_6.out _).trans (((cell_far (p := ⟨g6, _, none⟩) NB10_6.out _).trans (((cell_far (p := ⟨g6, _, none⟩) NB10_6.out _).trans (hHeld.2.2))))))⟩ (fun hHeld => ?_)
  clear hK K
  refine done_ (by kernel_rfl) ?_
  try go_wp2
  refine bodyPost_ret (results_list (rs := [.tmp 4, .tmp 5, .cell 6 30]) rfl (by simp) (.tmp (.tmp (.cell g6 30 #[.int .i64 t3, .int .i64 t4, .int .i64 t5] (0, 0) _ rfl (blk_put (blk_put (blk_put BK6.out 0 _ rfl) 1 _ rfl) 2 _ rfl) Try.underlying30 rfl (by kernel_rfl) .nil)))) rfl ?_
  exact ⟨_, by first | rfl | (simp [errW_none, errW_some] <;> rfl) | (simp [*, errW_none, errW_some] <;> rfl), Kd.V_nil _ _ _ _ _, below_set (bS_ (bS_ HB.out GE6.out) GE6.out) GE6.out⟩
 ·have HH2 := HH.out
  rw [if_neg c8] at HH2
  have c8b0 : (!(t3 == 0) || (!(t4 == 0) || (!(t5 == 0)))) = false := by simpa using c8
  clear c8
  obtain ⟨out, hout, HH3⟩ := ob_ HH2
  obtain ⟨hKP, vo, q, hS, hR, hlen⟩ := HP.out c8b0
  obtain rfl : q = out := by
   have h1_ := (rch_ahd hout l1.length t1 q (Nat.le_refl _) hR).2
   rw [h1_, List.take_of_length_le (Nat.le_of_eq (ahd_len hout))]
  have HS := a0_ hS
  have HK3 := a0_ hKP
  obtain ⟨Ao, co, ev⟩ := Kd.R_slice hS.ho
  have HQ := a0_ hS.ho
  rw [ev] at HQ
  have hco := a0_ (Kd.R_reads' HQ.out).2.1
  obtain ⟨A3, c3, ev3, hl3, hC3⟩ := KP_read hKP hS.hb
  subst ev3
  clear hKP hS hR HH HP HH2 hout hl3 hC3
  subst ev
  have HH4 := a0_ HH3
  clear HH3
  by_cases c9 : q.length = 0
  ·have HH5 := HH4.out
   rw [if_pos c9] at HH5
   simp only [Option.some.injEq, Prod.mk.injEq] at HH5
   obtain ⟨rfl, rfl, rfl, rfl, rfl⟩ := HH5
   have HO7 : Aside0 (w3.heap[g7]? = some (.cells #[.slice Ao 0 co] 43 (0, 0))) := ⟨by have h_ := HS.out.hO; rw [c9] at h_; exact h_⟩
   clear HH4 c9
   go_wp2_with (first | ((with_reducible refine gate_dst (N := 10) rfl ?_); refine box_event ?hg (N := 10) ?hd (cs := #[.int .i64 0, .int .i64 0, .int .i64 0]) (t := 30) ?hr ?_; (case hd => rfl); (case hg => rfl); (case hr => first | (go_simp; done) | (go_simp; rfl)); intro g10 hg w4 hbox hb; have n0_ := a0_ (bT_ (by repeat (first | (with_reducible first | exact HB.out | apply bA_ | apply bN_ | apply bD_) | exact HB.out)) hb); have n1_ := a0_ (kB_ (by (with_reducible repeat (first | refine kN_ ?_ _ | refine kD_ ?_ | refine kA_ ?_ _)); exact BK6.out) hb); have BK10 := a0_ hbox; have GE10 := a0_ ((by rw [hg]; exact (bZ_ (by repeat (first | (with_reducible first | exact HB.out | apply bA_ | apply bN_ | apply bD_) | exact HB.out)))) : w.heap.size ≤ g10); have NB6_10 := a0_ ((by rw [hg]; exact Nat.ne_of_lt (Array.getElem?_eq_some_iff.mp BK6.out).1) : g6 ≠ g10); have NB10_6 := a0_ (Ne.symm NB6_10.out); have n2_ := a0_ (kB_ (by (with_reducible repeat (first | refine kN_ ?_ _ | refine kD_ ?_ | refine kA_ ?_ _)); exact HO7.out) hb); have NB7_10 := a0_ ((by rw [hg]; exact Nat.ne_of_lt (Array.getElem?_eq_some_iff.mp HO7.out).1) : g7 ≠ g10); have NB10_7 := a0_ (Ne.symm NB7_10.out); have HS4 := a0_ (HS.out.below hb); have HK4 := a0_ (KP_below HK3.out hb); clear HO7; have BK7 := n2_; clear n2_; clear HB BK6; have HB := n0_; have BK6 := n1_; clear n0_ n1_ hb hbox hg; have hcz10_0 : w4.cell? ⟨g10, 0, none⟩ = some (.int .i64 0) := (blk_cell BK10.out 0).trans rfl; have hcz10_1 : w4.cell? ⟨g10, 1, none⟩ = some (.int .i64 0) := (blk_cell BK10.out 1).trans rfl; have hcz10_2 : w4.cell? ⟨g10, 2, none⟩ = some (.int .i64 0) := (blk_cell BK10.out 2).trans rfl; have hfz10_0 := kF_ BK10.out 0; have hfz10_1 := kF_ BK10.out 1; have hfz10_2 := kF_ BK10.out 2; have hs7 : w4.cell? ⟨g7, 0, none⟩ = some (.slice Ao 0 co) := (blk_cell BK7.out 0).trans rfl; have hfs7 := kF_ BK7.out 0; have hns7 := NB10_7.out; have hms7 := NB7_10.out; have hns6 := NB10_6.out; have hms6 := NB6_10.out; have hcz6_0 : w4.cell? ⟨g6, 0, none⟩ = some (.int .i64 0) := (blk_cell BK6.out 0).trans rfl; have hcz6_1 : w4.cell? ⟨g6, 1, none⟩ = some (.int .i64 0) := (blk_cell BK6.out 1).trans rfl; have hcz6_2 : w4.cell? ⟨g6, 2, none⟩ = some (.int .i64 0) := (blk_cell BK6.out 2).trans rfl; have hfz6_0 := kF_ BK6.out 0; have hfz6_1 := kF_ BK6.out 1; have hfz6_2 := kF_ BK6.out 2))
   refine bodyPost_ret (results_list (rs := [.tmp 4, .tmp 5, .cell 6 30]) rfl (by simp) (.tmp (.tmp (.cell g6 30 #[.int .i64 0, .int .i64 0, .int .i64 0] (0, 0) _ rfl (blk_put (blk_put (blk_put (blk_far (blk_far (blk_far BK6.out NB6_10.out _) NB6_10.out _) NB6_10.out _) 0 _ rfl) 1 _ rfl) 2 _ rfl) Try.underlying30 rfl (by kernel_rfl) .nil)))) rfl ?_
   exact ⟨_, by first | rfl | (simp [errW_none, errW_some] <;> rfl) | (simp [*, errW_none, errW_some] <;> rfl), Kd.V_nil _ _ _ _ _, below_set (bS_ (bS_ (bS_ (bS_ (bS_ HB.out GE10.out) GE10.out) GE10.out) GE6.out) GE6.out) GE6.out⟩
  ·have HH5 := HH4.out
   rw [if_neg c9] at HH5
   simp only [Option.some.injEq, Prod.mk.injEq] at HH5
   obtain ⟨rfl, rfl, rfl, rfl, rfl⟩ := HH5
   have HO7 : Aside0 (w3.heap[g7]? = some (.cells #[.slice Ao q.length co] 43 (0, 0))) := ⟨HS.out.hO⟩
   obtain ⟨i0, hi0, _, hsz, _⟩ := info_parts info22
   have hcut0 := cut_from (P := Try.prog) 43 22 .i64 Try.underlying43 hi0 1 hsz Ao q.length co 1 (by omega) (by omega)
   obtain ⟨n1, hn1⟩ : ∃ n1, n1 = q.length - (1 : Int).toNat := ⟨_, rfl⟩
   obtain ⟨c1', hc1'⟩ : ∃ c1', c1' = co - (1 : Int).toNat := ⟨_, rfl⟩
   obtain ⟨A1', hA1'⟩ : ∃ A1' : Option Addr, A1' = if co = (1 : Int).toNat then Ao else Ao.map (·.add ((1 : Int).toNat * 1)) := ⟨_, rfl⟩
   rw [← hn1, ← hc1', ← hA1'] at hcut0
   have HA1 := a0_ (And.intro hn1 (And.intro hc1' hA1'))
   have b9 : decide ((q.length : Int) = 0) = false := decide_eq_false (by omega)
   have b9' : ((q.length : Int) == 0) = false := beq_eq_false_iff_ne.mpr (by omega)
   have C9 := a0_ c9
   have Hlen := a0_ hlen
   clear HH4 hn1 hc1' hA1' hlen
   go_wp2_with (first | ((with_reducible refine gate_dst (N := 10) rfl ?_); refine box_event ?hg (N := 10) ?hd (cs := #[.int .i64 0, .int .i64 0, .int .i64 0]) (t := 30) ?hr ?_; (case hd => rfl); (case hg => rfl); (case hr => first | (go_simp; done) | (go_simp; rfl)); intro g10 hg w4 hbox hb; have n0_ := a0_ (bT_ (by repeat (first | (with_reducible first | exact HB.out | apply bA_ | apply bN_ | apply bD_) | exact HB.out)) hb); have n1_ := a0_ (kB_ (by (with_reducible repeat (first | refine kN_ ?_ _ | refine kD_ ?_ | refine kA_ ?_ _)); exact BK6.out) hb); have BK10 := a0_ hbox; have GE10 := a0_ ((by rw [hg]; exact (bZ_ (by repeat (first | (with_reducible first | exact HB.out | apply bA_ | apply bN_ | apply bD_) | exact HB.out)))) : w.heap.size ≤ g10); have NB6_10 := a0_ ((by rw [hg]; exact Nat.ne_of_lt (Array.getElem?_eq_some_iff.mp BK6.out).1) : g6 ≠ g10); have NB10_6 := a0_ (Ne.symm NB6_10.out); have n2_ := a0_ (kB_ (by (with_reducible repeat (first | refine kN_ ?_ _ | refine kD_ ?_ | refine kA_ ?_ _)); exact HO7.out) hb); have NB7_10 := a0_ ((by rw [hg]; exact Nat.ne_of_lt (Array.getElem?_eq_some_iff.mp HO7.out).1) : g7 ≠ g10); have NB10_7 := a0_ (Ne.symm NB7_10.out); have HS4 := a0_ (HS.out.below hb); have HK4 := a0_ (KP_below HK3.out hb); clear HO7; have BK7 := n2_; clear n2_; clear HB BK6; have HB := n0_; have BK6 := n1_; clear n0_ n1_ hb hbox hg; have hcz10_0 : w4.cell? ⟨g10, 0, none⟩ = some (.int .i64 0) := (blk_cell BK10.out 0).trans rfl; have hcz10_1 : w4.cell? ⟨g10, 1, none⟩ = some (.int .i64 0) := (blk_cell BK10.out 1).trans rfl; have hcz10_2 : w4.cell? ⟨g10, 2, none⟩ = some (.int .i64 0) := (blk_cell BK10.out 2).trans rfl; have hfz10_0 := kF_ BK10.out 0; have hfz10_1 := kF_ BK10.out 1; have hfz10_2 := kF_ BK10.out 2; have hs7 : w4.cell? ⟨g7, 0, none⟩ = some (.slice Ao q.length co) := (blk_cell BK7.out 0).trans rfl; have hfs7 := kF_ BK7.out 0; have hns7 := NB10_7.out; have hms7 := NB7_10.out; have hns6 := NB10_6.out; have hms6 := NB6_10.out; have hcz6_0 : w4.cell? ⟨g6, 0, none⟩ = some (.int .i64 0) := (blk_cell BK6.out 0).trans rfl; have hcz6_1 : w4.cell? ⟨g6, 1, none⟩ = some (.int .i64 0) := (blk_cell BK6.out 1).trans rfl; have hcz6_2 : w4.cell? ⟨g6, 2, none⟩ = some (.int .i64 0) := (blk_cell BK6.out 2).trans rfl; have hfz6_0 := kF_ BK6.out 0; have hfz6_1 := kF_ BK6.out 1; have hfz6_2 := kF_ BK6.out 2) | ((with_reducible refine gate_builtin (b := .append) (xs := #[.tmp 29, .tmp 31]) rfl ?_); at_builtin; have HQ1 : Aside0 (Kd.R (KP P0_ w) 22 (((w4.setCell ⟨g10, 0, none⟩ (.int .i64 t3)).setCell ⟨g10, 1, none⟩ (.int .i64 t4)).setCell ⟨g10, 2, none⟩ (.int .i64 t5)) w.heap.size (fun _ => True) (.slice Ao q.length co) q) := ⟨Kd.R_set (Kd.R_set (Kd.R_set HS4.out.ho BK10.out (RS.inE (by decide) (by decide)) 0 _) (blk_put BK10.out 0 _ rfl) (RS.inE (by decide) (by decide)) 1 _) (blk_put (blk_put BK10.out 0 _ rfl) 1 _ rfl) (RS.inE (by decide) (by decide)) 2 _⟩; have HD1 : Aside0 (Kd.Q (KP P0_ w) 22 (((w4.setCell ⟨g10, 0, none⟩ (.int .i64 t3)).setCell ⟨g10, 1, none⟩ (.int .i64 t4)).setCell ⟨g10, 2, none⟩ (.int .i64 t5)) w.heap.size (fun _ => True) (.slice A1' n1 c1') (q.drop 1)) := ⟨by rw [HA1.out.1, HA1.out.2.1, HA1.out.2.2]; exact Kd.Q_drop (k := 1) (Kd.Q_of_R HQ1.out) (by have h_ := C9.out; omega)⟩; have HK5 : Aside0 ((KP P0_ w).M (((w4.setCell ⟨g10, 0, none⟩ (.int .i64 t3)).setCell ⟨g10, 1, none⟩ (.int .i64 t4)).setCell ⟨g10, 2, none⟩ (.int .i64 t5)) w.heap.size (fun _ => True) t1 [.slice A3 t1.length c3]) := ⟨KP_set (KP_set (KP_set HK4.out BK10.out (by decide) 0 _) (blk_put BK10.out 0 _ rfl) (by decide) 1 _) (blk_put (blk_put BK10.out 0 _ rfl) 1 _ rfl) (by decide) 2 _⟩; have HBW := a0_ (bS_ (bS_ (bS_ HB.out GE10.out (v := .int .i64 t3) (j := 0)) GE10.out (v := .int .i64 t4) (j := 1)) GE10.out (v := .int .i64 t5) (j := 2)); have BK6W : Aside0 ((((w4.setCell ⟨g10, 0, none⟩ (.int .i64 t3)).setCell ⟨g10, 1, none⟩ (.int .i64 t4)).setCell ⟨g10, 2, none⟩ (.int .i64 t5)).heap[g6]? = some (.cells #[.int .i64 0, .int .i64 0, .int .i64 0] 30 (0, 0))) := ⟨blk_far (blk_far (blk_far BK6.out NB6_10.out _) NB6_10.out _) NB6_10.out _⟩; refine Kd.Q_append (KP P0_ w) (w0 := w) w.heap.size rfl (.tmp 29) (.tmp 31) 43 22 (.slice none 0 0) 24 rfl Try.underlying43 info22 rfl (show 0 < (KP P0_ w).sz from Nat.one_pos) (by omega) (.slice A1' n1 c1') (q.drop 1) t1 [.slice A3 t1.length c3] (fun _ => True) (fun k => some k ≠ (.slice A1' n1 c1' : Value).ownBlock) rfl ?aX ?aP (fun _ hk => ⟨trivial, hk⟩) ?aF ?aO ?aB ?aS ?aL ?_; (case aX => first | rfl | (simp only [World.size_setCell]; rfl)); (case aP => exact (KP P0_ w).M_mono (fun k hk => by obtain ⟨_, _, _, qq, hm, cells, hc⟩ := hk; rw [kpE, List.mem_singleton] at hm; subst hm; exact Kd.Q_ne HD1.out hc (by decide)) ((KP P0_ w).M_bound HK5.out)); (case aF => exact (fun _ _ => trivial)); (case aO => exact HD1.out); (case aB => exact HBW.out); (case aS => exact HBW.out.size); (case aL => have h1_ := Hlen.out; have h2_ := HLL.out; simp only [List.length_drop]; omega); intro v5 w5 ho hb hg hat; have HQ5 := a0_ ho; have HB5 := a0_ hb; have BK65 := a0_ (blk_grown BK6W.out hg (Kd.Q_ne HD1.out BK6W.out (by decide))); clear ho hb hg hat HQ1 HD1 HK5 HBW BK6W; have hcy6_0 : w5.cell? ⟨g6, 0, none⟩ = some (.int .i64 0) := (blk_cell BK65.out 0).trans rfl; have hcy6_1 : w5.cell? ⟨g6, 1, none⟩ = some (.int .i64 0) := (blk_cell BK65.out 1).trans rfl; have hcy6_2 : w5.cell? ⟨g6, 2, none⟩ = some (.int .i64 0) := (blk_cell BK65.out 2).trans rfl; have hfy6_0 := kF_ BK65.out 0; have hfy6_1 := kF_ BK65.out 1; have hfy6_2 := kF_ BK65.out 2))
   refine bodyPost_ret (results_list (rs := [.tmp 4, .tmp 5, .cell 6 30]) rfl (by simp) (.tmp (.tmp (.cell g6 30 #[.int .i64 0, .int .i64 0, .int .i64 0] (0, 0) _ rfl (blk_put (blk_put (blk_put BK65.out 0 _ rfl) 1 _ rfl) 2 _ rfl) Try.underlying30 rfl (by kernel_rfl) .nil)))) rfl ?_
   have HQ6 := Kd.Q_set (Kd.Q_set (Kd.Q_set HQ5.out BK65.out (RS.inE (by decide) (by decide)) 0 (.int .i64 0)) (blk_put BK65.out 0 _ rfl) (RS.inE (by decide) (by decide)) 1 (.int .i64 0)) (blk_put (blk_put BK65.out 0 _ rfl) 1 _ rfl) (RS.inE (by decide) (by decide)) 2 (.int .i64 0)
   have HB6 := bS_ (bS_ (bS_ HB5.out GE6.out (v := .int .i64 0) (j := 0)) GE6.out (v := .int .i64 0) (j := 1)) GE6.out (v := .int .i64 0) (j := 2)
   obtain ⟨A6, c6, e6, _⟩ := Kd.Q_slice HQ6
   subst e6
   exact ⟨_, by first | rfl | (simp [errW_none, errW_some] <;> rfl) | (simp [*, errW_none, errW_some] <;> rfl), kp_row HQ6 HB6, HB6⟩
end Go.Proofs.Ytclcnglamlegiaa.Replay
