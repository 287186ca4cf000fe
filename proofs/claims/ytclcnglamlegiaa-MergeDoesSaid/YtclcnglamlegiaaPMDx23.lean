-- Written by ownprint.py, a program of this session (out of the kit's print, with contracts of the session's own).
import Derived.Test.YtclcnglamlegiaaWMore
import Derived.Test.YtclcnglamlegiaaPMDx0
import Derived.Test.YtclcnglamlegiaaPMDx22
namespace Go.Proofs.Ytclcnglamlegiaa.PMD
open Go.RowKit Go.Proofs.YtclcnglamlegiaaW.PrintWords Go.Proofs.YtclcnglamlegiaaW.PrintLast Go.Proofs.YtclcnglamlegiaaW.PrintMore
attribute [local go_sem] max2_int min2_int max_two min_two max_three min_three max_four min_four   -- for this text's walks alone
set_option linter.unusedVariables false
set_option linter.unusedSimpArgs false
attribute [local go_sem high] eqA30
/-! ### orielref35_Replay: function 15 -/
def orielref35_Replay.l0 : Nat → List (S36) → List (List (S34)) → List (List (S36)) → Int → Option ((List (List (S36))) × Int × Int × Int × Int)
 | 0, _, _, _, _ => none
 | k + 1, x0, x1, x7, x8 => if x8 < (x1.length : Int) then (if 0 ≤ x8 then ((orielref17_Apply.f k x0 (rd_L4 x1 x8)).bind fun bt232 => (if (!(bt232.2.1 == 0) || (!(bt232.2.2.1 == 0) || (!(bt232.2.2.2 == 0)))) = true then (some (([] : List (List (S36))), x8, bt232.2.1, bt232.2.2.1, bt232.2.2.2)) else (if x7.length < 5864062014805 then (orielref35_Replay.l0 k bt232.1 x1 (x7 ++ [bt232.1]) (wrap64 (x8 + 1))) else (none)))) else (none)) else (some (x7, 0, 0, 0, 0))
def orielref35_Replay.f (k : Nat) (l0 : List (S36)) (l1 : List (List (S34))) : Option ((List (List (S36))) × Int × Int × Int × Int) := orielref35_Replay.l0 k l0 l1 ([] : List (List (S36))) 0
set_option maxHeartbeats 8000000 in
set_option maxRecDepth 100000 in
theorem orielref35_Replay.calls (k : Nat) (P0_ : Nat → Prop) (A0 : Option Addr) (c0 : Nat) (l0 : List (S36)) (A1 : Option Addr) (c1 : Nat) (l1 : List (List (S34))) (r1 : List (List (S36))) (r2 : Int) (r3 : Int) (r4 : Int) (r5 : Int) (w : World) (hs0 : Kd.V k36 36 w w.heap.size (fun k_ => P0_ k_) (.slice A0 l0.length c0) l0) (hr1 : Kd.C (Kd.slice 34 k34) w A1 l1.length l1) (hc1 : l1.length ≤ c1) (h : orielref35_Replay.f k l0 l1 = some (r1, r2, r3, r4, r5)) :
  Calls Try.prog 15 #[.slice A0 l0.length c0, .slice A1 l1.length c1] w fun e w' => ∃ v0_ : Value, e = .returned (.tuple #[v0_, .int .i64 r2, .agg #[.int .i64 r3, .int .i64 r4, .int .i64 r5]]) ∧ Kd.S (Kd.slice 36 k36) 22 w' w.heap.size (fun k_ => (w.heap.size ≤ k_)) v0_ r1 ∧ Below w.heap.size w w' := by
 have hu30 := Try.underlying30
 have HO0 := a0_ (show Kd.V k36 36 w w.heap.size (fun k_ => (P0_ k_ ∨ w.heap.size ≤ k_)) (.slice A0 l0.length c0) l0 from Kd.V_mono hs0 (fun k_ hk => .inl hk))
 have HR1 := a0_ hr1
 have HC1 := a0_ hc1
 clear hr1 hc1
 have HB := a0_ (Below.refl w.heap.size w)
 have H : (orielref35_Replay.l0 k l0 l1 ([] : List (List (S36))) 0) = some (r1, r2, r3, r4, r5) := h
 clear h
 have H' := a0_ H
 clear H
 go_enter Try.func15, Try.ntmps15
 go_wp2_with (first | ((with_reducible refine gate_dst (N := 6) rfl ?_); refine box_event ?hg (N := 6) ?hd (cs := #[.int .i64 0, .int .i64 0, .int .i64 0]) (t := 30) ?hr ?_; (case hd => rfl); (case hg => rfl); (case hr => first | (go_simp; done) | (go_simp; rfl)); intro gb230 hg w3 hbox hb; replace HO0 := a0_ (Kd.V_below (Kd.V_elderB (by exact HO0.out) gb230 (Nat.le_of_eq hg.symm)) hb); have BK230 := a0_ (hbox); have GW230 := a0_ ((by rw [hg]; exact (bZ_ (by exact HB.out)) : w.heap.size ≤ gb230)); have GE230 := a0_ ((by rw [hg]; exact (bZ_ (by exact HB.out)) : w.heap.size ≤ gb230)); replace HB := a0_ (bT_ (by exact HB.out) hb); clear hb hbox hg))
 go_loopg [0, 7, 8] k (fun kq v0 v7 v8 w' => ∃ (x0_1 : List (S36)) (x7_1 : List (List (S36))) (x8_1 : Int) (x231000_1 : Int) (x231001_1 : Int) (x231002_1 : Int), v8 = .int .i64 x8_1 ∧ Aside0 (orielref35_Replay.l0 kq x0_1 l1 x7_1 x8_1 = some (r1, r2, r3, r4, r5)) ∧ Aside0 (kq ≤ k) ∧ Aside0 (Kd.V k36 36 w' w.heap.size (fun k_ => (P0_ k_ ∨ w.heap.size ≤ k_) ∧ some k_ ≠ (v7 : Value).ownBlock ∧ k_ ≠ gb230) v0 x0_1) ∧ Aside0 (Kd.S (Kd.slice 36 k36) 22 w' w.heap.size (fun k_ => (w.heap.size ≤ k_)) v7 x7_1) ∧ Aside0 (w'.heap[gb230]? = some (.cells #[.int .i64 x231000_1, .int .i64 x231001_1, .int .i64 x231002_1] 30 (0, 0))) ∧ Aside0 (Below w.heap.size w w'))
 case atStart => exact ⟨(l0), (([] : List (List (S36)))), (0), (0), (0), (0), (by first | rfl | (simp; done) | (simp [*]; done)), H', ⟨Nat.le_refl _⟩, ⟨by exact Kd.V_mono HO0.out (fun _ hk => ⟨hk.1, ⟨(by simp [Value.ownBlock]), hk.2⟩⟩)⟩, ⟨by first | exact Kd.S_nil _ _ _ _ _ | exact Kd.N_nil _ _ _ _ _ | exact Kd.V_nil _ _ _ _ _ | exact Kd.Q_nil _ _ _ _ _ | exact Kd.R_nil _ _ _ _ _⟩, ⟨by exact BK230.out⟩, ⟨by exact HB.out⟩⟩
 case round =>
  clear H'
  obtain ⟨x0_1, x7_1, x8_1, x231000_1, x231001_1, x231002_1, rfl, HA, HK1, HO_0, HO_7, BK230, HB⟩ := hrel
  cases gk with
  | zero => exact absurd HA.out (by simp [orielref35_Replay.l0])
  | succ k1 =>
   have H := HA.out
   clear HA
   simp only [orielref35_Replay.l0] at H
   by_cases c4 : x8_1 < (l1.length : Int)
   ·rw [if_pos c4] at H
    have c4b0 : decide (x8_1 < (l1.length : Int)) = true := decide_eq_true c4
    clear c4
    by_cases c5 : 0 ≤ x8_1
    ·rw [if_pos c5] at H
     have c5b0 : decide (0 ≤ x8_1) = true := decide_eq_true c5
     clear c5
     replace H := ob_ H
     obtain ⟨⟨t232, t235, t236, t237⟩, A60, H⟩ := H
     replace H : (if (!(t235 == 0) || (!(t236 == 0) || (!(t237 == 0)))) = true then (some (([] : List (List (S36))), x8_1, t235, t236, t237)) else (if x7_1.length < 5864062014805 then (orielref35_Replay.l0 k1 t232 l1 (x7_1 ++ [t232]) (wrap64 (x8_1 + 1))) else (none))) = some (r1, r2, r3, r4, r5) := H
     have A6 := a0_ A60
     clear A60
     by_cases c7 : (!(t235 == 0) || (!(t236 == 0) || (!(t237 == 0)))) = true
     ·rw [if_pos c7] at H
      have c7b0 : (!(t235 == 0) || (!(t236 == 0) || (!(t237 == 0)))) = true := c7
      clear c7
      simp only [Option.some.injEq, Prod.mk.injEq] at H
      obtain ⟨rfl, rfl, rfl, rfl, rfl⟩ := H
      have p231 : 0 ≤ (x8_1 : Int) := od_ (by first | (with_reducible assumption) | assumption)
      have q231 : x8_1 < (l1.length : Int) := od_ (by first | (with_reducible assumption) | assumption)
      obtain ⟨ad231, A231_0, c231_0, e231, hx231_0, hl231_0, hi231_0⟩ := at_L4 HR1.out x8_1 p231 q231
      cases e231
      replace hx231_0 := (HB.out.cell (bl_ w _ hx231_0)).trans hx231_0
      have HR231_0 := a0_ hi231_0
      have HC231_0 := a0_ hl231_0
      clear hi231_0 hl231_0
      replace p231 := eq_true p231
      replace q231 := eq_true q231
      obtain ⟨Ao8, co8, eo8⟩ := Kd.V_slice HO_0.out
      subst eo8
      try go_wp2_with (first | ((with_reducible refine gate_callee (f := 11) rfl ?_); refine goesL_ (some 23) rfl rfl Try.func11 (by kernel_rfl) rfl #[.slice Ao8 x0_1.length co8, .slice A231_0 (rd_L4 l1 x8_1).length c231_0] rfl (by (try simp only [List.map_toArray, List.map_cons, List.map_nil]); first | done | rfl | (simp only [List.length_drop, List.length_take]; rfl)) ?_; (with_reducible refine (orielref17_Apply.calls k1 _ _ x0_1 _ _ (rd_L4 l1 x8_1) t232 t235 t236 t237 _ ?side1 ?side2 ?side3 ?side4 A6.out).mono ?_); (case side1 => repeat (first | exact (Kd.V_reads' HO_0.out).2.2 | (with_reducible refine Kd.C_alloc ?_ _) | (with_reducible refine Kd.C_drewN ?_ _) | (with_reducible refine Kd.C_drew ?_))); (case side2 => exact (Kd.V_reads' HO_0.out).2.1); (case side3 => repeat (first | exact (Kd.C_below HR231_0.out HB.out) | (with_reducible refine Kd.C_alloc ?_ _) | (with_reducible refine Kd.C_drewN ?_ _) | (with_reducible refine Kd.C_drew ?_))); (case side4 => exact HC231_0.out); rintro e w9 ⟨v233, rfl, ho0, hb⟩; refine ⟨_, rfl, ?_⟩; replace HO_0 := a0_ (Kd.V_elder' (by exact HO_0.out) (Kd.R_base ho0) hb); replace HO_7 := a0_ (Kd.S_elder' (by exact HO_7.out) (Kd.R_base ho0) hb); have HO234 := a0_ (Kd.R_lower (Kd.R_newM (M := fun k_ => (w.heap.size ≤ k_)) ho0 (bZ_ (by exact HB.out)) (fun k_ h_ => h_)) (bZ_ (by exact HB.out))); replace BK230 := a0_ (kB_ (g := gb230) (o := .cells #[.int .i64 x231000_1, .int .i64 x231001_1, .int .i64 x231002_1] 30 (0, 0)) (by exact BK230.out) hb); replace HB := a0_ (bT_ (by exact HB.out) hb); (try clear hb); (try clear hb2); (try clear hk); (try clear hi); (try clear ho0)) | ((with_reducible refine gate_dst (N := 10) rfl ?_); refine box_event ?hg (N := 10) ?hd (cs := #[.int .i64 0, .int .i64 0, .int .i64 0]) (t := 30) ?hr ?_; (case hd => rfl); (case hg => rfl); (case hr => first | (go_simp; done) | (go_simp; rfl)); intro gb238 hg w10 hbox hb; replace HO_0 := a0_ (Kd.V_below (Kd.V_elderB (by exact HO_0.out) gb238 (Nat.le_of_eq hg.symm)) hb); replace HO_7 := a0_ (Kd.S_below (by exact HO_7.out) hb); replace HO234 := a0_ (Kd.R_below (by exact HO234.out) hb); have BK238 := a0_ (hbox); have GW238 := a0_ ((by rw [hg]; exact (bZ_ (by exact HB.out)) : w.heap.size ≤ gb238)); have GE238 := a0_ ((by rw [hg]; exact (bZ_ (by exact HB.out)) : w.heap.size ≤ gb238)); replace HB := a0_ (bT_ (by exact HB.out) hb); have NB230_238 := a0_ ((by rw [hg]; exact Nat.ne_of_lt (blk_lt (g := gb230) (o := .cells #[.int .i64 x231000_1, .int .i64 x231001_1, .int .i64 x231002_1] 30 (0, 0)) (by exact BK230.out)) : gb230 ≠ gb238)); have NB238_230 := a0_ ((by rw [hg]; exact Nat.ne_of_gt (blk_lt (g := gb230) (o := .cells #[.int .i64 x231000_1, .int .i64 x231001_1, .int .i64 x231002_1] 30 (0, 0)) (by exact BK230.out)) : gb238 ≠ gb230)); replace BK230 := a0_ (kB_ (g := gb230) (o := .cells #[.int .i64 x231000_1, .int .i64 x231001_1, .int .i64 x231002_1] 30 (0, 0)) (by exact BK230.out) hb); clear hb hbox hg; have hnb11 := NB238_230.out; have hnc11 := NB230_238.out; have hcz12_0 : w10.cell? ⟨gb238, 0, none⟩ = some (.int .i64 0) := (blk_cell BK238.out 0).trans rfl; have hcz12_1 : w10.cell? ⟨gb238, 1, none⟩ = some (.int .i64 0) := (blk_cell BK238.out 1).trans rfl; have hcz12_2 : w10.cell? ⟨gb238, 2, none⟩ = some (.int .i64 0) := (blk_cell BK238.out 2).trans rfl; have hfz12_0 := kF_ BK238.out 0; have hfz12_1 := kF_ BK238.out 1; have hfz12_2 := kF_ BK238.out 2))
      replace HO_0 : Aside0 (Kd.V k36 36 (((w10.setCell ⟨gb238, 0, none⟩ (.int .i64 t235)).setCell ⟨gb238, 1, none⟩ (.int .i64 t236)).setCell ⟨gb238, 2, none⟩ (.int .i64 t237)) w.heap.size (fun k_ => (P0_ k_ ∨ w.heap.size ≤ k_) ∧ some k_ ≠ (u7 : Value).ownBlock ∧ some k_ ≠ (v233 : Value).ownBlock ∧ k_ ≠ gb230 ∧ k_ ≠ gb238) (.slice Ao8 x0_1.length co8) x0_1) := ⟨by (with_reducible repeat (first | apply Kd.V_alloc | apply Kd.V_drewN | apply Kd.V_drew)); exact Kd.V_mono (Kd.V_far (p := ⟨gb238, 2, none⟩) (Kd.V_far (p := ⟨gb238, 1, none⟩) (Kd.V_far (p := ⟨gb238, 0, none⟩) (Kd.V_mono HO_0.out (fun k_ hk => (⟨hk, hk.2⟩ : _ ∧ k_ ≠ gb238))) (fun _ hk => hk.2) (.int .i64 t235)) (fun _ hk => hk.2) (.int .i64 t236)) (fun _ hk => hk.2) (.int .i64 t237)) (fun _ hk => ⟨hk.1.1.1.1, ⟨hk.1.1.1.2.1, ⟨hk.1.1.2, ⟨hk.1.1.1.2.2, hk.1.2⟩⟩⟩⟩)⟩
      replace HO_7 : Aside0 (Kd.S (Kd.slice 36 k36) 22 (((w10.setCell ⟨gb238, 0, none⟩ (.int .i64 t235)).setCell ⟨gb238, 1, none⟩ (.int .i64 t236)).setCell ⟨gb238, 2, none⟩ (.int .i64 t237)) w.heap.size (fun k_ => (w.heap.size ≤ k_) ∧ some k_ ≠ (v233 : Value).ownBlock) u7 x7_1) := ⟨by (with_reducible repeat (first | apply Kd.S_alloc | apply Kd.S_drewN | apply Kd.S_drew)); exact Kd.S_mono (Kd.S_far (p := ⟨gb238, 2, none⟩) (Kd.S_far (p := ⟨gb238, 1, none⟩) (Kd.S_far (p := ⟨gb238, 0, none⟩) (Kd.S_types HO_7.out BK238.out (by decide)) (fun _ hk => hk.2) (.int .i64 t235)) (fun _ hk => hk.2) (.int .i64 t236)) (fun _ hk => hk.2) (.int .i64 t237)) (fun _ hk => ⟨hk.1.1, hk.1.2⟩)⟩
      replace HO234 : Aside0 (Kd.R k36 36 (((w10.setCell ⟨gb238, 0, none⟩ (.int .i64 t235)).setCell ⟨gb238, 1, none⟩ (.int .i64 t236)).setCell ⟨gb238, 2, none⟩ (.int .i64 t237)) w.heap.size (fun k_ => (w.heap.size ≤ k_)) v233 t232) := ⟨by (with_reducible repeat (first | apply Kd.R_alloc | apply Kd.R_drewN | apply Kd.R_drew)); exact Kd.R_mono (Kd.R_far (p := ⟨gb238, 2, none⟩) (Kd.R_far (p := ⟨gb238, 1, none⟩) (Kd.R_far (p := ⟨gb238, 0, none⟩) (Kd.R_types HO234.out BK238.out (by decide)) (fun _ hk => hk.2) (.int .i64 t235)) (fun _ hk => hk.2) (.int .i64 t236)) (fun _ hk => hk.2) (.int .i64 t237)) (fun _ hk => hk.1.1)⟩
      replace BK230 : Aside0 ((((w10.setCell ⟨gb238, 0, none⟩ (.int .i64 t235)).setCell ⟨gb238, 1, none⟩ (.int .i64 t236)).setCell ⟨gb238, 2, none⟩ (.int .i64 t237)).heap[gb230]? = some (.cells #[.int .i64 x231000_1, .int .i64 x231001_1, .int .i64 x231002_1] 30 (0, 0))) := ⟨by (with_reducible repeat (first | refine kN_ ?_ _ | refine kD_ ?_ | refine kA_ ?_ _)); refine blk_far ?_ NB230_238.out _; (with_reducible repeat (first | refine kN_ ?_ _ | refine kD_ ?_ | refine kA_ ?_ _)); refine blk_far ?_ NB230_238.out _; (with_reducible repeat (first | refine kN_ ?_ _ | refine kD_ ?_ | refine kA_ ?_ _)); refine blk_far ?_ NB230_238.out _; (with_reducible repeat (first | refine kN_ ?_ _ | refine kD_ ?_ | refine kA_ ?_ _)); exact BK230.out⟩
      replace BK238 : Aside0 ((((w10.setCell ⟨gb238, 0, none⟩ (.int .i64 t235)).setCell ⟨gb238, 1, none⟩ (.int .i64 t236)).setCell ⟨gb238, 2, none⟩ (.int .i64 t237)).heap[gb238]? = some (.cells #[.int .i64 t235, .int .i64 t236, .int .i64 t237] 30 (0, 0))) := ⟨by refine blk_put (cs := #[.int .i64 t235, .int .i64 t236, .int .i64 0]) ?_ 2 _ rfl; refine blk_put (cs := #[.int .i64 t235, .int .i64 0, .int .i64 0]) ?_ 1 _ rfl; refine blk_put (cs := #[.int .i64 0, .int .i64 0, .int .i64 0]) ?_ 0 _ rfl; exact BK238.out⟩
      replace HB : Aside0 (Below w.heap.size w (((w10.setCell ⟨gb238, 0, none⟩ (.int .i64 t235)).setCell ⟨gb238, 1, none⟩ (.int .i64 t236)).setCell ⟨gb238, 2, none⟩ (.int .i64 t237))) := ⟨by repeat (first | (with_reducible first | exact HB.out | apply bA_ | apply bN_ | apply bD_ | refine bS_ ?_ GE230.out | refine bS_ ?_ GE238.out) | exact HB.out)⟩
      generalize (((w10.setCell ⟨gb238, 0, none⟩ (.int .i64 t235)).setCell ⟨gb238, 1, none⟩ (.int .i64 t236)).setCell ⟨gb238, 2, none⟩ (.int .i64 t237)) = w13 at HO_0 HO_7 HO234 BK230 BK238 HB ⊢
      replace HO_0 := a0_ (Kd.V_drew HO_0.out)
      replace HO_7 := a0_ (Kd.S_drew HO_7.out)
      replace HO234 := a0_ (Kd.R_drew HO234.out)
      replace BK230 := a0_ (kD_ BK230.out)
      replace BK238 := a0_ (kD_ BK238.out)
      replace HB := a0_ (bD_ HB.out)
      refine start_ (n := 5) (S := fun w' => w'.cell? ⟨gb238, 0, none⟩ = some (.int .i64 t235) ∧ w'.cell? ⟨gb238, 1, none⟩ = some (.int .i64 t236) ∧ w'.cell? ⟨gb238, 2, none⟩ = some (.int .i64 t237)) (ds := []) #[false, false, false, false, false] (by kernel_rfl) rfl rfl ⟨(blk_cell BK238.out 0).trans rfl, (blk_cell BK238.out 1).trans rfl, (blk_cell BK238.out 2).trans rfl⟩ (fun hHeld => ?_)
      generalize w13.drew = w14 at HO_0 HO_7 HO234 BK230 BK238 HB hHeld ⊢
      refine pure_ (i := 0) (N := some 29) #[true, false, false, false, false] rfl rfl (by kernel_rfl) (fun _ _ _ h => h) (Or.inl ⟨by rfl, fun w' => by go_simp; with_reducible rfl⟩) (by simp only [ps_]; rfl) ?_
      refine pure_ (i := 2) (N := some 4) #[true, false, true, false, false] rfl rfl (by kernel_rfl) (fun _ _ _ h => h) (Or.inl ⟨by rfl, fun w' => by go_simp; with_reducible rfl⟩) (by simp only [ps_]; rfl) ?_
      refine pure_ (i := 3) (N := some 5) #[true, false, true, true, false] rfl rfl (by kernel_rfl) (fun _ _ _ h => h) (Or.inl ⟨by rfl, fun w' => by go_simp; with_reducible rfl⟩) (by simp only [ps_]; rfl) ?_
      refine take_ (i := 1) (N := some 30) (v := ?_) (a' := ?_) #[true, true, true, true, false] rfl rfl (by kernel_rfl) (fun _ _ _ h => h) (Or.inl ⟨by rfl, ?_⟩) hHeld ?_ ?_
      rotate_left
      ·rintro w' ⟨s0, s1, s2⟩
       go_simp
       with_reducible rfl
      rotate_left
      ·simp only [ps_]
       rfl
      refine one_ (i := 4) (N := none) #[true, true, true, true, true] rfl rfl (by kernel_rfl) (by decide) (fun K hK => ?_)
      have hs15 : w14.cell? ⟨gb230, 0, none⟩ = some (.int .i64 x231000_1) := (blk_cell BK230.out 0).trans rfl
      have hfs15 := kF_ BK230.out 0
      have hns15_1 := NB238_230.out
      have hms15_1 := NB230_238.out
      have hs16 : w14.cell? ⟨gb230, 1, none⟩ = some (.int .i64 x231001_1) := (blk_cell BK230.out 1).trans rfl
      have hfs16 := kF_ BK230.out 1
      have hns16_1 := NB238_230.out
      have hms16_1 := NB230_238.out
      have hs17 : w14.cell? ⟨gb230, 2, none⟩ = some (.int .i64 x231002_1) := (blk_cell BK230.out 2).trans rfl
      have hfs17 := kF_ BK230.out 2
      have hns17_1 := NB238_230.out
      have hms17_1 := NB230_238.out
      refine skip_ (w1 := ?_) (by rfl) rfl ?_ ?_
      rotate_left
      ·go_simp
       rfl
      refine hK.out _ _ ⟨((cell_far (p := ⟨gb230, _, none⟩) NB238_230.out _).trans (((cell_far (p := ⟨gb230, _, none⟩) NB238_230.out _).trans (((cell_far (p := ⟨gb230, _, none⟩) NB238_230.out _).trans (hHeld.1)))))), ((cell_far (p := ⟨gb230, _, none⟩) NB238_230.out _).trans (((cell_far (p := ⟨gb230, _, none⟩) NB238_230.out _).trans (((cell_far (p := ⟨gb230, _, none⟩) NB238_230.out _).trans (hHeld.2.1)))))), ((cell_far (p := ⟨gb230, _, none⟩) NB238_230.out _).trans (((cell_far (p := ⟨gb230, _, none⟩) NB238_230.out _).trans (((cell_far (p := ⟨gb230, _, none⟩) NB238_230.out _).trans (hHeld.2.2))))))⟩ (fun hHeld => ?_)
      clear hK K
      refine done_ (by kernel_rfl) ?_
      try go_wp2
      refine bodyPost_ret (results_list (rs := [.tmp 4, .tmp 5, .cell 6 30]) rfl (by simp) (.tmp (.tmp (.cell gb230 30 #[.int .i64 t235, .int .i64 t236, .int .i64 t237] (0, 0) _ rfl (by (with_reducible repeat (first | refine kN_ ?_ _ | refine kD_ ?_ | refine kA_ ?_ _)); refine blk_put (cs := #[.int .i64 t235, .int .i64 t236, .int .i64 x231002_1]) ?_ 2 _ rfl; (with_reducible repeat (first | refine kN_ ?_ _ | refine kD_ ?_ | refine kA_ ?_ _)); refine blk_put (cs := #[.int .i64 t235, .int .i64 x231001_1, .int .i64 x231002_1]) ?_ 1 _ rfl; (with_reducible repeat (first | refine kN_ ?_ _ | refine kD_ ?_ | refine kA_ ?_ _)); refine blk_put (cs := #[.int .i64 x231000_1, .int .i64 x231001_1, .int .i64 x231002_1]) ?_ 0 _ rfl; (with_reducible repeat (first | refine kN_ ?_ _ | refine kD_ ?_ | refine kA_ ?_ _)); exact BK230.out) Try.underlying30 rfl (by kernel_rfl) .nil)))) rfl ?_
      exact ⟨_, by first | rfl | (simp [errW_none, errW_some] <;> rfl) | (simp [*, errW_none, errW_some] <;> rfl), by first | exact Kd.S_nil _ _ _ _ _ | exact Kd.N_nil _ _ _ _ _ | exact Kd.V_nil _ _ _ _ _ | exact Kd.Q_nil _ _ _ _ _ | exact Kd.R_nil _ _ _ _ _, by repeat (first | (with_reducible first | exact HB.out | apply bA_ | apply bN_ | apply bD_ | refine bS_ ?_ GE230.out | refine bS_ ?_ GE238.out) | exact HB.out)⟩
     ·rw [if_neg c7] at H
      have c7b0 : (!(t235 == 0) || (!(t236 == 0) || (!(t237 == 0)))) = false := by simpa using c7
      clear c7
      by_cases c18 : x7_1.length < 5864062014805
      ·rw [if_pos c18] at H
       have LMc18 := a0_ c18
       clear c18
       obtain ⟨y239, hy239⟩ : ∃ y_ : List (List (S36)), y_ = (x7_1 ++ [t232]) := ⟨_, rfl⟩
       replace H : (orielref35_Replay.l0 k1 t232 l1 y239 (wrap64 (x8_1 + 1))) = some (r1, r2, r3, r4, r5) := by first | (rw [hy239]; with_reducible exact H) | (have H2_ := (Option.bind_some _ _).symm.trans H; rw [hy239]; with_reducible exact H2_) | (have H2_ := (Option.bind_some _ _).symm.trans H; with_reducible exact H2_) | with_reducible exact H | (rw [hy239]; exact H) | exact H
       have Ny239 := a0_ hy239
       clear hy239
       have H' := a0_ H
       clear H
       have p231 : 0 ≤ (x8_1 : Int) := od_ (by first | (with_reducible assumption) | assumption)
       have q231 : x8_1 < (l1.length : Int) := od_ (by first | (with_reducible assumption) | assumption)
       obtain ⟨ad231, A231_0, c231_0, e231, hx231_0, hl231_0, hi231_0⟩ := at_L4 HR1.out x8_1 p231 q231
       cases e231
       replace hx231_0 := (HB.out.cell (bl_ w _ hx231_0)).trans hx231_0
       have HR231_0 := a0_ hi231_0
       have HC231_0 := a0_ hl231_0
       clear hi231_0 hl231_0
       replace p231 := eq_true p231
       replace q231 := eq_true q231
       obtain ⟨Ao19, co19, eo19⟩ := Kd.V_slice HO_0.out
       subst eo19
       go_wp2_with (first | ((with_reducible refine gate_callee (f := 11) rfl ?_); refine goesL_ (some 23) rfl rfl Try.func11 (by kernel_rfl) rfl #[.slice Ao19 x0_1.length co19, .slice A231_0 (rd_L4 l1 x8_1).length c231_0] rfl (by (try simp only [List.map_toArray, List.map_cons, List.map_nil]); first | done | rfl | (simp only [List.length_drop, List.length_take]; rfl)) ?_; (with_reducible refine (orielref17_Apply.calls k1 _ _ x0_1 _ _ (rd_L4 l1 x8_1) t232 t235 t236 t237 _ ?side1 ?side2 ?side3 ?side4 A6.out).mono ?_); (case side1 => repeat (first | exact (Kd.V_reads' HO_0.out).2.2 | (with_reducible refine Kd.C_alloc ?_ _) | (with_reducible refine Kd.C_drewN ?_ _) | (with_reducible refine Kd.C_drew ?_))); (case side2 => exact (Kd.V_reads' HO_0.out).2.1); (case side3 => repeat (first | exact (Kd.C_below HR231_0.out HB.out) | (with_reducible refine Kd.C_alloc ?_ _) | (with_reducible refine Kd.C_drewN ?_ _) | (with_reducible refine Kd.C_drew ?_))); (case side4 => exact HC231_0.out); rintro e w20 ⟨v233, rfl, ho0, hb⟩; refine ⟨_, rfl, ?_⟩; replace HO_0 := a0_ (Kd.V_elder' (by exact HO_0.out) (Kd.R_base ho0) hb); replace HO_7 := a0_ (Kd.S_elder' (by exact HO_7.out) (Kd.R_base ho0) hb); have HO234 := a0_ (Kd.R_lower (Kd.R_newM (M := fun k_ => (w.heap.size ≤ k_)) ho0 (bZ_ (by exact HB.out)) (fun k_ h_ => h_)) (bZ_ (by exact HB.out))); replace BK230 := a0_ (kB_ (g := gb230) (o := .cells #[.int .i64 x231000_1, .int .i64 x231001_1, .int .i64 x231002_1] 30 (0, 0)) (by exact BK230.out) hb); replace HB := a0_ (bT_ (by exact HB.out) hb); (try clear hb); (try clear hb2); (try clear hk); (try clear hi); (try clear ho0)) | ((with_reducible refine gate_dst (N := 10) rfl ?_); refine box_event ?hg (N := 10) ?hd (cs := #[.int .i64 0, .int .i64 0, .int .i64 0]) (t := 30) ?hr ?_; (case hd => rfl); (case hg => rfl); (case hr => first | (go_simp; done) | (go_simp; rfl)); intro gb238 hg w21 hbox hb; replace HO_0 := a0_ (Kd.V_below (Kd.V_elderB (by exact HO_0.out) gb238 (Nat.le_of_eq hg.symm)) hb); replace HO_7 := a0_ (Kd.S_below (by exact HO_7.out) hb); replace HO234 := a0_ (Kd.R_below (by exact HO234.out) hb); have BK238 := a0_ (hbox); have GW238 := a0_ ((by rw [hg]; exact (bZ_ (by exact HB.out)) : w.heap.size ≤ gb238)); have GE238 := a0_ ((by rw [hg]; exact (bZ_ (by exact HB.out)) : w.heap.size ≤ gb238)); replace HB := a0_ (bT_ (by exact HB.out) hb); have NB230_238 := a0_ ((by rw [hg]; exact Nat.ne_of_lt (blk_lt (g := gb230) (o := .cells #[.int .i64 x231000_1, .int .i64 x231001_1, .int .i64 x231002_1] 30 (0, 0)) (by exact BK230.out)) : gb230 ≠ gb238)); have NB238_230 := a0_ ((by rw [hg]; exact Nat.ne_of_gt (blk_lt (g := gb230) (o := .cells #[.int .i64 x231000_1, .int .i64 x231001_1, .int .i64 x231002_1] 30 (0, 0)) (by exact BK230.out)) : gb238 ≠ gb230)); replace BK230 := a0_ (kB_ (g := gb230) (o := .cells #[.int .i64 x231000_1, .int .i64 x231001_1, .int .i64 x231002_1] 30 (0, 0)) (by exact BK230.out) hb); clear hb hbox hg; have hnb22 := NB238_230.out; have hnc22 := NB230_238.out; have hcz23_0 : w21.cell? ⟨gb238, 0, none⟩ = some (.int .i64 0) := (blk_cell BK238.out 0).trans rfl; have hcz23_1 : w21.cell? ⟨gb238, 1, none⟩ = some (.int .i64 0) := (blk_cell BK238.out 1).trans rfl; have hcz23_2 : w21.cell? ⟨gb238, 2, none⟩ = some (.int .i64 0) := (blk_cell BK238.out 2).trans rfl; have hfz23_0 := kF_ BK238.out 0; have hfz23_1 := kF_ BK238.out 1; have hfz23_2 := kF_ BK238.out 2) | ((with_reducible refine gate_store (t := 30) (p := 10) rfl ?_); refine store_event (t := 30) (p := 10) (v := ?vo_w24) (w1 := (((w21.setCell ⟨gb238, 0, none⟩ (.int .i64 t235)).setCell ⟨gb238, 1, none⟩ (.int .i64 t236)).setCell ⟨gb238, 2, none⟩ (.int .i64 t237))) ?hg ?ho ?hn ?hr ?_; (case ho => rfl); (case hg => rfl); (case hn => rfl); (case hr => first | (go_simp; done) | (go_simp; rfl)); intro w24 hw; replace HO_0 : Aside0 (Kd.V k36 36 w24 w.heap.size (fun k_ => (P0_ k_ ∨ w.heap.size ≤ k_) ∧ some k_ ≠ (u7 : Value).ownBlock ∧ some k_ ≠ (v233 : Value).ownBlock ∧ k_ ≠ gb230 ∧ k_ ≠ gb238) (.slice Ao19 x0_1.length co19) x0_1) := ⟨(by rw [hw]; exact (by (with_reducible repeat (first | apply Kd.V_alloc | apply Kd.V_drewN | apply Kd.V_drew)); exact Kd.V_mono (Kd.V_far (p := ⟨gb238, 2, none⟩) (Kd.V_far (p := ⟨gb238, 1, none⟩) (Kd.V_far (p := ⟨gb238, 0, none⟩) (Kd.V_mono HO_0.out (fun k_ hk => (⟨hk, hk.2⟩ : _ ∧ k_ ≠ gb238))) (fun _ hk => hk.2) (.int .i64 t235)) (fun _ hk => hk.2) (.int .i64 t236)) (fun _ hk => hk.2) (.int .i64 t237)) (fun _ hk => ⟨hk.1.1.1.1, ⟨hk.1.1.1.2.1, ⟨hk.1.1.2, ⟨hk.1.1.1.2.2, hk.1.2⟩⟩⟩⟩)))⟩; replace HO_7 : Aside0 (Kd.S (Kd.slice 36 k36) 22 w24 w.heap.size (fun k_ => (w.heap.size ≤ k_) ∧ some k_ ≠ (v233 : Value).ownBlock) u7 x7_1) := ⟨(by rw [hw]; exact (by (with_reducible repeat (first | apply Kd.S_alloc | apply Kd.S_drewN | apply Kd.S_drew)); exact Kd.S_mono (Kd.S_far (p := ⟨gb238, 2, none⟩) (Kd.S_far (p := ⟨gb238, 1, none⟩) (Kd.S_far (p := ⟨gb238, 0, none⟩) (Kd.S_types HO_7.out BK238.out (by decide)) (fun _ hk => hk.2) (.int .i64 t235)) (fun _ hk => hk.2) (.int .i64 t236)) (fun _ hk => hk.2) (.int .i64 t237)) (fun _ hk => ⟨hk.1.1, hk.1.2⟩)))⟩; replace HO234 : Aside0 (Kd.R k36 36 w24 w.heap.size (fun k_ => (w.heap.size ≤ k_)) v233 t232) := ⟨(by rw [hw]; exact (by (with_reducible repeat (first | apply Kd.R_alloc | apply Kd.R_drewN | apply Kd.R_drew)); exact Kd.R_mono (Kd.R_far (p := ⟨gb238, 2, none⟩) (Kd.R_far (p := ⟨gb238, 1, none⟩) (Kd.R_far (p := ⟨gb238, 0, none⟩) (Kd.R_types HO234.out BK238.out (by decide)) (fun _ hk => hk.2) (.int .i64 t235)) (fun _ hk => hk.2) (.int .i64 t236)) (fun _ hk => hk.2) (.int .i64 t237)) (fun _ hk => hk.1.1)))⟩; replace BK230 : Aside0 (w24.heap[gb230]? = some (.cells #[.int .i64 x231000_1, .int .i64 x231001_1, .int .i64 x231002_1] 30 (0, 0))) := ⟨(by rw [hw]; exact (by (with_reducible repeat (first | refine kN_ ?_ _ | refine kD_ ?_ | refine kA_ ?_ _)); refine blk_far ?_ NB230_238.out _; (with_reducible repeat (first | refine kN_ ?_ _ | refine kD_ ?_ | refine kA_ ?_ _)); refine blk_far ?_ NB230_238.out _; (with_reducible repeat (first | refine kN_ ?_ _ | refine kD_ ?_ | refine kA_ ?_ _)); refine blk_far ?_ NB230_238.out _; (with_reducible repeat (first | refine kN_ ?_ _ | refine kD_ ?_ | refine kA_ ?_ _)); exact BK230.out))⟩; replace BK238 : Aside0 (w24.heap[gb238]? = some (.cells #[.int .i64 t235, .int .i64 t236, .int .i64 t237] 30 (0, 0))) := ⟨(by rw [hw]; exact (by (with_reducible repeat (first | refine kN_ ?_ _ | refine kD_ ?_ | refine kA_ ?_ _)); refine blk_put (cs := #[.int .i64 t235, .int .i64 t236, .int .i64 0]) ?_ 2 _ rfl; (with_reducible repeat (first | refine kN_ ?_ _ | refine kD_ ?_ | refine kA_ ?_ _)); refine blk_put (cs := #[.int .i64 t235, .int .i64 0, .int .i64 0]) ?_ 1 _ rfl; (with_reducible repeat (first | refine kN_ ?_ _ | refine kD_ ?_ | refine kA_ ?_ _)); refine blk_put (cs := #[.int .i64 0, .int .i64 0, .int .i64 0]) ?_ 0 _ rfl; (with_reducible repeat (first | refine kN_ ?_ _ | refine kD_ ?_ | refine kA_ ?_ _)); exact BK238.out))⟩; replace HB : Aside0 (Below w.heap.size w w24) := ⟨(by rw [hw]; exact (by repeat (first | (with_reducible first | exact HB.out | apply bA_ | apply bN_ | apply bD_ | refine bS_ ?_ GE230.out | refine bS_ ?_ GE238.out) | exact HB.out)))⟩; clear hw; have hcz25_0 : w24.cell? ⟨gb238, 0, none⟩ = some (.int .i64 t235) := (blk_cell BK238.out 0).trans rfl; have hcz25_1 : w24.cell? ⟨gb238, 1, none⟩ = some (.int .i64 t236) := (blk_cell BK238.out 1).trans rfl; have hcz25_2 : w24.cell? ⟨gb238, 2, none⟩ = some (.int .i64 t237) := (blk_cell BK238.out 2).trans rfl; have hfz25_0 := kF_ BK238.out 0; have hfz25_1 := kF_ BK238.out 1; have hfz25_2 := kF_ BK238.out 2; obtain ⟨Ao27, co27, eo27⟩ := Kd.R_slice HO234.out; subst eo27) | ((with_reducible refine gate_builtin (b := .append) (xs := #[.tmp 31, .tmp 33]) rfl ?_); at_builtin; refine Kd.S_append (Kd.slice 36 k36) (w0 := w) w.heap.size rfl (.tmp 31) (.tmp 33) 43 22 (.slice none 0 0) 24 rfl Try.underlying43 info22 rfl (by decide) (by omega) u7 x7_1 t232 [.slice Ao27 t232.length co27] (fun k_ => (w.heap.size ≤ k_)) (fun k_ => some k_ = (.slice Ao27 t232.length co27 : Value).ownBlock) rfl rfl ?aP (fun k_ hk_ => ((Kd.R_mono (ok' := fun k_ => ((fun k_ => (w.heap.size ≤ k_))) k_ ∧ some k_ ≠ (u7 : Value).ownBlock) (Kd.R_apart' (HO234.out) (Kd.S_typed HO_7.out) (by decide)) (fun k_ hk => ⟨hk.1, hk.2⟩))).1 k_ hk_.symm) ?aF ?aO ?aB ?aS ?aL ?_; (case aP => exact Kd.M_row (Kd.R_mono (Kd.R_tight rfl (Kd.R_mono (ok' := fun k_ => ((fun k_ => (w.heap.size ≤ k_))) k_ ∧ some k_ ≠ (u7 : Value).ownBlock) (Kd.R_apart' (HO234.out) (Kd.S_typed HO_7.out) (by decide)) (fun k_ hk => ⟨hk.1, hk.2⟩))) (fun _ h_ => h_))); (case aB => exact (by exact HB.out)); (case aF => exact (fun k_ hk => (Nat.le_trans (bZ_ (by exact HB.out)) hk))); (case aO => exact (by exact Kd.S_mono HO_7.out (fun k_ hk => ⟨hk.1, fun e_ => hk.2 e_⟩))); (case aS => exact (bZ_ (by exact HB.out))); (case aL => have := LMc18.out; omega); intro v240 w26 ho hb hg hat; rw [← Ny239.out] at ho; have n0_ := a0_ (Kd.V_afterv (ok := (fun k_ => (P0_ k_ ∨ w.heap.size ≤ k_) ∧ some k_ ≠ (.slice Ao27 t232.length co27 : Value).ownBlock ∧ k_ ≠ gb230 ∧ k_ ≠ gb238)) (by exact Kd.V_mono HO_0.out (fun _ hk => ⟨⟨hk.1, ⟨hk.2.2.1, ⟨hk.2.2.2.1, hk.2.2.2.2⟩⟩⟩, hk.2.1⟩)) hg hat); have n1_ := a0_ (blk_grown (g := gb230) (o := .cells #[.int .i64 x231000_1, .int .i64 x231001_1, .int .i64 x231002_1] 30 (0, 0)) (by exact BK230.out) hg (Kd.S_ne HO_7.out BK230.out (by decide))); have n2_ := a0_ (blk_grown (g := gb238) (o := .cells #[.int .i64 t235, .int .i64 t236, .int .i64 t237] 30 (0, 0)) (by exact BK238.out) hg (Kd.S_ne HO_7.out BK238.out (by decide))); have n3_ := a0_ (hb); have n4_ := a0_ (ho); have nq9_ := a0_ (Kd.R_grown (Kd.R_apart' (HO234.out) (Kd.S_typed HO_7.out) (by decide)) hg (fun _ hk => hk.2)); clear HO_0; clear BK230; clear BK238; clear HB; clear HO_7; clear HO234; have HO_0 := n0_; have BK230 := n1_; have BK238 := n2_; have HB := n3_; have HO241 := n4_; have HO234 := nq9_; clear nq9_; clear n0_ n1_ n2_ n3_ n4_; clear ho hb hg hat))
       go_roundg k1
       case measure => have := HK1.out; omega
       case rel => exact ⟨(t232), (y239), (wrap64 (x8_1 + 1)), (x231000_1), (x231001_1), (x231002_1), (by first | rfl | (simp; done) | (simp [*]; done)), H', ⟨by have := HK1.out; omega⟩, ⟨Kd.R_V (by exact Kd.R_mono (Kd.R_bound (Kd.R_types (Kd.R_apart' HO234.out (Kd.S_typed HO241.out) (by decide)) BK230.out (by decide))) (fun _ hk => ⟨.inr hk.2.1, ⟨hk.1.1.2, hk.1.2⟩⟩))⟩, ⟨by exact HO241.out⟩, ⟨by exact BK230.out⟩, ⟨by exact HB.out⟩⟩
      ·rw [if_neg c18] at H
       exact absurd H (by simp)
    ·rw [if_neg c5] at H
     exact absurd H (by simp)
   ·rw [if_neg c4] at H
    have c4b0 : decide (x8_1 < (l1.length : Int)) = false := decide_eq_false c4
    clear c4
    simp only [Option.some.injEq, Prod.mk.injEq] at H
    obtain ⟨rfl, rfl, rfl, rfl, rfl⟩ := H
    have hcz28_0 : wr.cell? ⟨gb230, 0, none⟩ = some (.int .i64 x231000_1) := (blk_cell BK230.out 0).trans rfl
    have hcz28_1 : wr.cell? ⟨gb230, 1, none⟩ = some (.int .i64 x231001_1) := (blk_cell BK230.out 1).trans rfl
    have hcz28_2 : wr.cell? ⟨gb230, 2, none⟩ = some (.int .i64 x231002_1) := (blk_cell BK230.out 2).trans rfl
    have hfz28_0 := kF_ BK230.out 0
    have hfz28_1 := kF_ BK230.out 1
    have hfz28_2 := kF_ BK230.out 2
    go_wp2
    refine bodyPost_ret (results_list (rs := [.tmp 4, .tmp 5, .cell 6 30]) rfl (by simp) (.tmp (.tmp (.cell gb230 30 #[.int .i64 0, .int .i64 0, .int .i64 0] (0, 0) _ rfl (by refine blk_put (cs := #[.int .i64 0, .int .i64 0, .int .i64 x231002_1]) ?_ 2 _ rfl; refine blk_put (cs := #[.int .i64 0, .int .i64 x231001_1, .int .i64 x231002_1]) ?_ 1 _ rfl; refine blk_put (cs := #[.int .i64 x231000_1, .int .i64 x231001_1, .int .i64 x231002_1]) ?_ 0 _ rfl; exact BK230.out) Try.underlying30 rfl (by kernel_rfl) .nil)))) rfl ?_
    exact ⟨_, by first | rfl | (simp [errW_none, errW_some] <;> rfl) | (simp [*, errW_none, errW_some] <;> rfl), by (with_reducible repeat (first | apply Kd.S_alloc | apply Kd.S_drewN | apply Kd.S_drew)); exact Kd.S_mono (Kd.S_far (p := ⟨gb230, 2, none⟩) (Kd.S_far (p := ⟨gb230, 1, none⟩) (Kd.S_far (p := ⟨gb230, 0, none⟩) (Kd.S_types HO_7.out BK230.out (by decide)) (fun _ hk => hk.2) (.int .i64 0)) (fun _ hk => hk.2) (.int .i64 0)) (fun _ hk => hk.2) (.int .i64 0)) (fun _ hk => hk.1), by repeat (first | (with_reducible first | exact HB.out | apply bA_ | apply bN_ | apply bD_ | refine bS_ ?_ GE230.out) | exact HB.out)⟩
end Go.Proofs.Ytclcnglamlegiaa.PMD
