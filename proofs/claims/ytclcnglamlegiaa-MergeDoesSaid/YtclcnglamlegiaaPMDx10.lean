-- Written by ownprint.py, a program of this session (out of the kit's print, with contracts of the session's own).
import Derived.Test.YtclcnglamlegiaaWMore
import Derived.Test.YtclcnglamlegiaaPMDx0
import Derived.Test.YtclcnglamlegiaaPMDx9
namespace Go.Proofs.Ytclcnglamlegiaa.PMD
open Go.RowKit Go.Proofs.YtclcnglamlegiaaW.PrintWords Go.Proofs.YtclcnglamlegiaaW.PrintLast Go.Proofs.YtclcnglamlegiaaW.PrintMore
attribute [local go_sem] max2_int min2_int max_two min_two max_three min_three max_four min_four   -- for this text's walks alone
set_option linter.unusedVariables false
set_option linter.unusedSimpArgs false
attribute [local go_sem high] eqA30
/-! ### merge_each: function 20 -/
def merge_each.l0 : Nat → List (S36) → List (List (S34)) → Int → Int → Option ((List (S36)) × Int × Int × Int × Int)
 | 0, _, _, _, _ => none
 | k + 1, x0, x13, x14, x15 => if x15 < x14 then (if 0 ≤ x15 then (if x15 < (x13.length : Int) then ((trial_Apply.f k x0 (rd_L4 x13 x15)).bind fun bt116 => (if (!(bt116.2.1 == 0) || (!(bt116.2.2.1 == 0) || (!(bt116.2.2.2 == 0)))) = true then (some (([] : List (S36)), x15, bt116.2.1, bt116.2.2.1, bt116.2.2.2)) else ((merge_Net_1.f x0 (rd_L4 x13 x15)).bind fun _ => (merge_each.l0 k bt116.1 x13 x14 (wrap64 (x15 + 1)))))) else (none)) else (none)) else (some (x0, 0, 0, 0, 0))
def merge_each.f (k : Nat) (l0 : List (S36)) (l1 : List (List (S34))) : Option ((List (S36)) × Int × Int × Int × Int) := merge_each.l0 k l0 l1 (l1.length : Int) 0
theorem merge_each.mono_l : ∀ k, (∀ y0 y1 y2 y3, LeO (merge_each.l0 k y0 y1 y2 y3) (merge_each.l0 (k + 1) y0 y1 y2 y3))
 | 0 => fun _ _ _ _ r h => by simp [merge_each.l0] at h
 | k + 1 => by
  have ih0 := merge_each.mono_l k
  ·intro y0 y1 y2 y3
   unfold merge_each.l0
   repeat' first
   | (with_reducible exact ih0 _ _ _ _)
   | (with_reducible exact trial_Apply.mono _ _ _)
   | (with_reducible exact LeO.refl _)
   | (with_reducible exact LeO.none _)
   | (with_reducible refine LeO.ite ?_ ?_)
   | (with_reducible refine LeO.bind ?_ (fun _ => ?_))
   | exact ih0 _ _ _ _
   | exact trial_Apply.mono _ _ _
   | exact LeO.none _
   | refine LeO.ite ?_ ?_
   | refine LeO.bind ?_ (fun _ => ?_)
theorem merge_each.mono : ∀ a0 a1 k, LeO (merge_each.f k a0 a1) (merge_each.f (k + 1) a0 a1) := by
 intro a0 a1 k
 have ih0 := merge_each.mono_l k
 unfold merge_each.f
 repeat' first
   | (with_reducible exact ih0 _ _ _ _)
   | (with_reducible exact trial_Apply.mono _ _ _)
   | (with_reducible exact LeO.refl _)
   | (with_reducible exact LeO.none _)
   | (with_reducible refine LeO.ite ?_ ?_)
   | (with_reducible refine LeO.bind ?_ (fun _ => ?_))
   | exact ih0 _ _ _ _
   | exact trial_Apply.mono _ _ _
   | exact LeO.none _
   | refine LeO.ite ?_ ?_
   | refine LeO.bind ?_ (fun _ => ?_)
set_option maxHeartbeats 8000000 in
set_option maxRecDepth 100000 in
theorem merge_each.calls (k : Nat) (P0_ : Nat → Prop) (A0 : Option Addr) (c0 : Nat) (l0 : List (S36)) (A1 : Option Addr) (c1 : Nat) (l1 : List (List (S34))) (r1 : List (S36)) (r2 : Int) (r3 : Int) (r4 : Int) (r5 : Int) (w : World) (hs0 : Kd.V k36 36 w w.heap.size (fun k_ => P0_ k_) (.slice A0 l0.length c0) l0) (hr1 : Kd.C (Kd.slice 34 k34) w A1 l1.length l1) (hc1 : l1.length ≤ c1) (h : merge_each.f k l0 l1 = some (r1, r2, r3, r4, r5)) :
  Calls Try.prog 20 #[.slice A0 l0.length c0, .slice A1 l1.length c1, .func (.func 21) #[] #[]] w fun e w' => ∃ v0_ : Value, e = .returned (.tuple #[v0_, .int .i64 r2, .agg #[.int .i64 r3, .int .i64 r4, .int .i64 r5]]) ∧ Kd.V k36 36 w' w.heap.size (fun k_ => (P0_ k_ ∨ w.heap.size ≤ k_)) v0_ r1 ∧ Below w.heap.size w w' := by
 have hu30 := Try.underlying30
 have HO0 := a0_ (show Kd.V k36 36 w w.heap.size (fun k_ => (P0_ k_ ∨ w.heap.size ≤ k_)) (.slice A0 l0.length c0) l0 from Kd.V_mono hs0 (fun k_ hk => .inl hk))
 have HR1 := a0_ hr1
 have HC1 := a0_ hc1
 clear hr1 hc1
 have HB := a0_ (Below.refl w.heap.size w)
 have H : (merge_each.l0 k l0 l1 (l1.length : Int) 0) = some (r1, r2, r3, r4, r5) := h
 clear h
 have H' := a0_ H
 clear H
 go_enter Try.func20, Try.ntmps20
 go_wp2_with (first | ((with_reducible refine gate_dst (N := 8) rfl ?_); refine box_event ?hg (N := 8) ?hd (cs := #[.int .i64 0, .int .i64 0, .int .i64 0]) (t := 30) ?hr ?_; (case hd => rfl); (case hg => rfl); (case hr => first | (go_simp; done) | (go_simp; rfl)); intro gb114 hg w3 hbox hb; replace HO0 := a0_ (Kd.V_below (Kd.V_elderB (by exact HO0.out) gb114 (Nat.le_of_eq hg.symm)) hb); have BK114 := a0_ (hbox); have GW114 := a0_ ((by rw [hg]; exact (bZ_ (by exact HB.out)) : w.heap.size ≤ gb114)); have GE114 := a0_ ((by rw [hg]; exact (bZ_ (by exact HB.out)) : w.heap.size ≤ gb114)); replace HB := a0_ (bT_ (by exact HB.out) hb); clear hb hbox hg))
 go_loopg [0, 15] k (fun kq v0 v15 w' => ∃ (x0_1 : List (S36)) (x15_1 : Int) (x115000_1 : Int) (x115001_1 : Int) (x115002_1 : Int), v15 = .int .i64 x15_1 ∧ Aside0 (merge_each.l0 kq x0_1 l1 (l1.length : Int) x15_1 = some (r1, r2, r3, r4, r5)) ∧ Aside0 (kq ≤ k) ∧ Aside0 (Kd.V k36 36 w' w.heap.size (fun k_ => (P0_ k_ ∨ w.heap.size ≤ k_) ∧ k_ ≠ gb114) v0 x0_1) ∧ Aside0 (w'.heap[gb114]? = some (.cells #[.int .i64 x115000_1, .int .i64 x115001_1, .int .i64 x115002_1] 30 (0, 0))) ∧ Aside0 (Below w.heap.size w w'))
 case atStart => exact ⟨(l0), (0), (0), (0), (0), (by first | rfl | (simp; done) | (simp [*]; done)), H', ⟨Nat.le_refl _⟩, ⟨by exact HO0.out⟩, ⟨by exact BK114.out⟩, ⟨by exact HB.out⟩⟩
 case round =>
  clear H'
  obtain ⟨x0_1, x15_1, x115000_1, x115001_1, x115002_1, rfl, HA, HK1, HO_0, BK114, HB⟩ := hrel
  cases gk with
  | zero => exact absurd HA.out (by simp [merge_each.l0])
  | succ k1 =>
   have H := HA.out
   clear HA
   simp only [merge_each.l0] at H
   by_cases c4 : x15_1 < (l1.length : Int)
   ·rw [if_pos c4] at H
    have c4b0 : decide (x15_1 < (l1.length : Int)) = true := decide_eq_true c4
    clear c4
    by_cases c5 : 0 ≤ x15_1
    ·rw [if_pos c5] at H
     have c5b0 : decide (0 ≤ x15_1) = true := decide_eq_true c5
     clear c5
     by_cases c6 : x15_1 < (l1.length : Int)
     ·rw [if_pos c6] at H
      have c6b0 : decide (x15_1 < (l1.length : Int)) = true := decide_eq_true c6
      clear c6
      replace H := ob_ H
      obtain ⟨⟨t116, t119, t120, t121⟩, A70, H⟩ := H
      replace H : (if (!(t119 == 0) || (!(t120 == 0) || (!(t121 == 0)))) = true then (some (([] : List (S36)), x15_1, t119, t120, t121)) else ((merge_Net_1.f x0_1 (rd_L4 l1 x15_1)).bind fun _ => (merge_each.l0 k1 t116 l1 (l1.length : Int) (wrap64 (x15_1 + 1))))) = some (r1, r2, r3, r4, r5) := H
      have A7 := a0_ A70
      clear A70
      by_cases c8 : (!(t119 == 0) || (!(t120 == 0) || (!(t121 == 0)))) = true
      ·rw [if_pos c8] at H
       have c8b0 : (!(t119 == 0) || (!(t120 == 0) || (!(t121 == 0)))) = true := c8
       clear c8
       simp only [Option.some.injEq, Prod.mk.injEq] at H
       obtain ⟨rfl, rfl, rfl, rfl, rfl⟩ := H
       have p115 : 0 ≤ (x15_1 : Int) := od_ (by first | (with_reducible assumption) | assumption)
       have q115 : x15_1 < (l1.length : Int) := od_ (by first | (with_reducible assumption) | assumption)
       obtain ⟨ad115, A115_0, c115_0, e115, hx115_0, hl115_0, hi115_0⟩ := at_L4 HR1.out x15_1 p115 q115
       cases e115
       replace hx115_0 := (HB.out.cell (bl_ w _ hx115_0)).trans hx115_0
       have HR115_0 := a0_ hi115_0
       have HC115_0 := a0_ hl115_0
       clear hi115_0 hl115_0
       replace p115 := eq_true p115
       replace q115 := eq_true q115
       obtain ⟨Ao9, co9, eo9⟩ := Kd.V_slice HO_0.out
       subst eo9
       try go_wp2_with (first | ((with_reducible refine gate_callee (f := 32) rfl ?_); refine goesL_ (some 23) rfl rfl Try.func32 (by kernel_rfl) rfl #[.slice Ao9 x0_1.length co9, .slice A115_0 (rd_L4 l1 x15_1).length c115_0] rfl (by (try simp only [List.map_toArray, List.map_cons, List.map_nil]); first | done | rfl | (simp only [List.length_drop, List.length_take]; rfl)) ?_; (with_reducible refine (trial_Apply.calls k1 _ _ x0_1 _ _ (rd_L4 l1 x15_1) t116 t119 t120 t121 _ ?side1 ?side2 ?side3 ?side4 A7.out).mono ?_); (case side1 => repeat (first | exact (Kd.V_reads' HO_0.out).2.2 | (with_reducible refine Kd.C_alloc ?_ _) | (with_reducible refine Kd.C_drewN ?_ _) | (with_reducible refine Kd.C_drew ?_))); (case side2 => exact (Kd.V_reads' HO_0.out).2.1); (case side3 => repeat (first | exact (Kd.C_below HR115_0.out HB.out) | (with_reducible refine Kd.C_alloc ?_ _) | (with_reducible refine Kd.C_drewN ?_ _) | (with_reducible refine Kd.C_drew ?_))); (case side4 => exact HC115_0.out); rintro e w10 ⟨v117, rfl, ho0, hb⟩; refine ⟨_, rfl, ?_⟩; replace HO_0 := a0_ (Kd.V_elder' (by exact HO_0.out) (Kd.R_base ho0) hb); have HO118 := a0_ (Kd.R_lower (Kd.R_newM (M := fun k_ => (w.heap.size ≤ k_)) ho0 (bZ_ (by exact HB.out)) (fun k_ h_ => h_)) (bZ_ (by exact HB.out))); replace BK114 := a0_ (kB_ (g := gb114) (o := .cells #[.int .i64 x115000_1, .int .i64 x115001_1, .int .i64 x115002_1] 30 (0, 0)) (by exact BK114.out) hb); replace HB := a0_ (bT_ (by exact HB.out) hb); (try clear hb); (try clear hb2); (try clear hk); (try clear hi); (try clear ho0)) | ((with_reducible refine gate_dst (N := 12) rfl ?_); refine box_event ?hg (N := 12) ?hd (cs := #[.int .i64 0, .int .i64 0, .int .i64 0]) (t := 30) ?hr ?_; (case hd => rfl); (case hg => rfl); (case hr => first | (go_simp; done) | (go_simp; rfl)); intro gb122 hg w11 hbox hb; replace HO_0 := a0_ (Kd.V_below (Kd.V_elderB (by exact HO_0.out) gb122 (Nat.le_of_eq hg.symm)) hb); replace HO118 := a0_ (Kd.R_below (by exact HO118.out) hb); have BK122 := a0_ (hbox); have GW122 := a0_ ((by rw [hg]; exact (bZ_ (by exact HB.out)) : w.heap.size ≤ gb122)); have GE122 := a0_ ((by rw [hg]; exact (bZ_ (by exact HB.out)) : w.heap.size ≤ gb122)); replace HB := a0_ (bT_ (by exact HB.out) hb); have NB114_122 := a0_ ((by rw [hg]; exact Nat.ne_of_lt (blk_lt (g := gb114) (o := .cells #[.int .i64 x115000_1, .int .i64 x115001_1, .int .i64 x115002_1] 30 (0, 0)) (by exact BK114.out)) : gb114 ≠ gb122)); have NB122_114 := a0_ ((by rw [hg]; exact Nat.ne_of_gt (blk_lt (g := gb114) (o := .cells #[.int .i64 x115000_1, .int .i64 x115001_1, .int .i64 x115002_1] 30 (0, 0)) (by exact BK114.out)) : gb122 ≠ gb114)); replace BK114 := a0_ (kB_ (g := gb114) (o := .cells #[.int .i64 x115000_1, .int .i64 x115001_1, .int .i64 x115002_1] 30 (0, 0)) (by exact BK114.out) hb); clear hb hbox hg; have hnb12 := NB122_114.out; have hnc12 := NB114_122.out; have hcz13_0 : w11.cell? ⟨gb122, 0, none⟩ = some (.int .i64 0) := (blk_cell BK122.out 0).trans rfl; have hcz13_1 : w11.cell? ⟨gb122, 1, none⟩ = some (.int .i64 0) := (blk_cell BK122.out 1).trans rfl; have hcz13_2 : w11.cell? ⟨gb122, 2, none⟩ = some (.int .i64 0) := (blk_cell BK122.out 2).trans rfl; have hfz13_0 := kF_ BK122.out 0; have hfz13_1 := kF_ BK122.out 1; have hfz13_2 := kF_ BK122.out 2))
       replace HO_0 : Aside0 (Kd.V k36 36 (((w11.setCell ⟨gb122, 0, none⟩ (.int .i64 t119)).setCell ⟨gb122, 1, none⟩ (.int .i64 t120)).setCell ⟨gb122, 2, none⟩ (.int .i64 t121)) w.heap.size (fun k_ => (P0_ k_ ∨ w.heap.size ≤ k_) ∧ some k_ ≠ (v117 : Value).ownBlock ∧ k_ ≠ gb114 ∧ k_ ≠ gb122) (.slice Ao9 x0_1.length co9) x0_1) := ⟨by (with_reducible repeat (first | apply Kd.V_alloc | apply Kd.V_drewN | apply Kd.V_drew)); exact Kd.V_mono (Kd.V_far (p := ⟨gb122, 2, none⟩) (Kd.V_far (p := ⟨gb122, 1, none⟩) (Kd.V_far (p := ⟨gb122, 0, none⟩) (Kd.V_mono HO_0.out (fun k_ hk => (⟨hk, hk.2⟩ : _ ∧ k_ ≠ gb122))) (fun _ hk => hk.2) (.int .i64 t119)) (fun _ hk => hk.2) (.int .i64 t120)) (fun _ hk => hk.2) (.int .i64 t121)) (fun _ hk => ⟨hk.1.1.1.1, ⟨hk.1.1.2, ⟨hk.1.1.1.2, hk.1.2⟩⟩⟩)⟩
       replace HO118 : Aside0 (Kd.R k36 36 (((w11.setCell ⟨gb122, 0, none⟩ (.int .i64 t119)).setCell ⟨gb122, 1, none⟩ (.int .i64 t120)).setCell ⟨gb122, 2, none⟩ (.int .i64 t121)) w.heap.size (fun k_ => (w.heap.size ≤ k_)) v117 t116) := ⟨by (with_reducible repeat (first | apply Kd.R_alloc | apply Kd.R_drewN | apply Kd.R_drew)); exact Kd.R_mono (Kd.R_far (p := ⟨gb122, 2, none⟩) (Kd.R_far (p := ⟨gb122, 1, none⟩) (Kd.R_far (p := ⟨gb122, 0, none⟩) (Kd.R_types HO118.out BK122.out (by decide)) (fun _ hk => hk.2) (.int .i64 t119)) (fun _ hk => hk.2) (.int .i64 t120)) (fun _ hk => hk.2) (.int .i64 t121)) (fun _ hk => hk.1.1)⟩
       replace BK114 : Aside0 ((((w11.setCell ⟨gb122, 0, none⟩ (.int .i64 t119)).setCell ⟨gb122, 1, none⟩ (.int .i64 t120)).setCell ⟨gb122, 2, none⟩ (.int .i64 t121)).heap[gb114]? = some (.cells #[.int .i64 x115000_1, .int .i64 x115001_1, .int .i64 x115002_1] 30 (0, 0))) := ⟨by (with_reducible repeat (first | refine kN_ ?_ _ | refine kD_ ?_ | refine kA_ ?_ _)); refine blk_far ?_ NB114_122.out _; (with_reducible repeat (first | refine kN_ ?_ _ | refine kD_ ?_ | refine kA_ ?_ _)); refine blk_far ?_ NB114_122.out _; (with_reducible repeat (first | refine kN_ ?_ _ | refine kD_ ?_ | refine kA_ ?_ _)); refine blk_far ?_ NB114_122.out _; (with_reducible repeat (first | refine kN_ ?_ _ | refine kD_ ?_ | refine kA_ ?_ _)); exact BK114.out⟩
       replace BK122 : Aside0 ((((w11.setCell ⟨gb122, 0, none⟩ (.int .i64 t119)).setCell ⟨gb122, 1, none⟩ (.int .i64 t120)).setCell ⟨gb122, 2, none⟩ (.int .i64 t121)).heap[gb122]? = some (.cells #[.int .i64 t119, .int .i64 t120, .int .i64 t121] 30 (0, 0))) := ⟨by refine blk_put (cs := #[.int .i64 t119, .int .i64 t120, .int .i64 0]) ?_ 2 _ rfl; refine blk_put (cs := #[.int .i64 t119, .int .i64 0, .int .i64 0]) ?_ 1 _ rfl; refine blk_put (cs := #[.int .i64 0, .int .i64 0, .int .i64 0]) ?_ 0 _ rfl; exact BK122.out⟩
       replace HB : Aside0 (Below w.heap.size w (((w11.setCell ⟨gb122, 0, none⟩ (.int .i64 t119)).setCell ⟨gb122, 1, none⟩ (.int .i64 t120)).setCell ⟨gb122, 2, none⟩ (.int .i64 t121))) := ⟨by repeat (first | (with_reducible first | exact HB.out | apply bA_ | apply bN_ | apply bD_ | refine bS_ ?_ GE114.out | refine bS_ ?_ GE122.out) | exact HB.out)⟩
       generalize (((w11.setCell ⟨gb122, 0, none⟩ (.int .i64 t119)).setCell ⟨gb122, 1, none⟩ (.int .i64 t120)).setCell ⟨gb122, 2, none⟩ (.int .i64 t121)) = w14 at HO_0 HO118 BK114 BK122 HB ⊢
       replace HO_0 := a0_ (Kd.V_drew HO_0.out)
       replace HO118 := a0_ (Kd.R_drew HO118.out)
       replace BK114 := a0_ (kD_ BK114.out)
       replace BK122 := a0_ (kD_ BK122.out)
       replace HB := a0_ (bD_ HB.out)
       refine start_ (n := 5) (S := fun w' => w'.cell? ⟨gb122, 0, none⟩ = some (.int .i64 t119) ∧ w'.cell? ⟨gb122, 1, none⟩ = some (.int .i64 t120) ∧ w'.cell? ⟨gb122, 2, none⟩ = some (.int .i64 t121)) (ds := []) #[false, false, false, false, false] (by kernel_rfl) rfl rfl ⟨(blk_cell BK122.out 0).trans rfl, (blk_cell BK122.out 1).trans rfl, (blk_cell BK122.out 2).trans rfl⟩ (fun hHeld => ?_)
       generalize w14.drew = w15 at HO_0 HO118 BK114 BK122 HB hHeld ⊢
       refine pure_ (i := 0) (N := some 29) #[true, false, false, false, false] rfl rfl (by kernel_rfl) (fun _ _ _ h => h) (Or.inl ⟨by rfl, fun w' => by go_simp; with_reducible rfl⟩) (by simp only [ps_]; rfl) ?_
       refine pure_ (i := 2) (N := some 6) #[true, false, true, false, false] rfl rfl (by kernel_rfl) (fun _ _ _ h => h) (Or.inl ⟨by rfl, fun w' => by go_simp; with_reducible rfl⟩) (by simp only [ps_]; rfl) ?_
       refine pure_ (i := 3) (N := some 7) #[true, false, true, true, false] rfl rfl (by kernel_rfl) (fun _ _ _ h => h) (Or.inl ⟨by rfl, fun w' => by go_simp; with_reducible rfl⟩) (by simp only [ps_]; rfl) ?_
       refine take_ (i := 1) (N := some 30) (v := ?_) (a' := ?_) #[true, true, true, true, false] rfl rfl (by kernel_rfl) (fun _ _ _ h => h) (Or.inl ⟨by rfl, ?_⟩) hHeld ?_ ?_
       rotate_left
       ·rintro w' ⟨s0, s1, s2⟩
        go_simp
        with_reducible rfl
       rotate_left
       ·simp only [ps_]
        rfl
       refine one_ (i := 4) (N := none) #[true, true, true, true, true] rfl rfl (by kernel_rfl) (by decide) (fun K hK => ?_)
       have hs16 : w15.cell? ⟨gb114, 0, none⟩ = some (.int .i64 x115000_1) := (blk_cell BK114.out 0).trans rfl
       have hfs16 := kF_ BK114.out 0
       have hns16_1 := NB122_114.out
       have hms16_1 := NB114_122.out
       have hs17 : w15.cell? ⟨gb114, 1, none⟩ = some (.int .i64 x115001_1) := (blk_cell BK114.out 1).trans rfl
       have hfs17 := kF_ BK114.out 1
       have hns17_1 := NB122_114.out
       have hms17_1 := NB114_122.out
       have hs18 : w15.cell? ⟨gb114, 2, none⟩ = some (.int .i64 x115002_1) := (blk_cell BK114.out 2).trans rfl
       have hfs18 := kF_ BK114.out 2
       have hns18_1 := NB122_114.out
       have hms18_1 := NB114_122.out
       refine skip_ (w1 := ?_) (by rfl) rfl ?_ ?_
       rotate_left
       ·go_simp
        rfl
       refine hK.out _ _ ⟨((cell_far (p := ⟨gb114, _, none⟩) NB122_114.out _).trans (((cell_far (p := ⟨gb114, _, none⟩) NB122_114.out _).trans (((cell_far (p := ⟨gb114, _, none⟩) NB122_114.out _).trans (hHeld.1)))))), ((cell_far (p := ⟨gb114, _, none⟩) NB122_114.out _).trans (((cell_far (p := ⟨gb114, _, none⟩) NB122_114.out _).trans (((cell_far (p := ⟨gb114, _, none⟩) NB122_114.out _).trans (hHeld.2.1)))))), ((cell_far (p := ⟨gb114, _, none⟩) NB122_114.out _).trans (((cell_far (p := ⟨gb114, _, none⟩) NB122_114.out _).trans (((cell_far (p := ⟨gb114, _, none⟩) NB122_114.out _).trans (hHeld.2.2))))))⟩ (fun hHeld => ?_)
       clear hK K
       refine done_ (by kernel_rfl) ?_
       try go_wp2
       refine bodyPost_ret (results_list (rs := [.tmp 6, .tmp 7, .cell 8 30]) rfl (by simp) (.tmp (.tmp (.cell gb114 30 #[.int .i64 t119, .int .i64 t120, .int .i64 t121] (0, 0) _ rfl (by (with_reducible repeat (first | refine kN_ ?_ _ | refine kD_ ?_ | refine kA_ ?_ _)); refine blk_put (cs := #[.int .i64 t119, .int .i64 t120, .int .i64 x115002_1]) ?_ 2 _ rfl; (with_reducible repeat (first | refine kN_ ?_ _ | refine kD_ ?_ | refine kA_ ?_ _)); refine blk_put (cs := #[.int .i64 t119, .int .i64 x115001_1, .int .i64 x115002_1]) ?_ 1 _ rfl; (with_reducible repeat (first | refine kN_ ?_ _ | refine kD_ ?_ | refine kA_ ?_ _)); refine blk_put (cs := #[.int .i64 x115000_1, .int .i64 x115001_1, .int .i64 x115002_1]) ?_ 0 _ rfl; (with_reducible repeat (first | refine kN_ ?_ _ | refine kD_ ?_ | refine kA_ ?_ _)); exact BK114.out) Try.underlying30 rfl (by kernel_rfl) .nil)))) rfl ?_
       exact ⟨_, by first | rfl | (simp [errW_none, errW_some] <;> rfl) | (simp [*, errW_none, errW_some] <;> rfl), (by first | exact Kd.V_nil _ _ _ _ _ | exact (by first | exact Kd.V_nil _ _ _ _ _ | exact Kd.V_mono (Kd.R_V (by first | exact Kd.R_nil _ _ _ _ _ | exact Kd.N_nil _ _ _ _ _ | exact Kd.V_nil _ _ _ _ _ | exact Kd.Q_nil _ _ _ _ _ | exact Kd.S_nil _ _ _ _ _)) (fun k_ hk => by first | exact ⟨(.inr (hk.1)), hk.2⟩ | exact (.inr (hk))))), by repeat (first | (with_reducible first | exact HB.out | apply bA_ | apply bN_ | apply bD_ | refine bS_ ?_ GE114.out | refine bS_ ?_ GE122.out) | exact HB.out)⟩
      ·rw [if_neg c8] at H
       have c8b0 : (!(t119 == 0) || (!(t120 == 0) || (!(t121 == 0)))) = false := by simpa using c8
       clear c8
       replace H := ob_ H
       obtain ⟨_, A190, H⟩ := H
       replace H : (merge_each.l0 k1 t116 l1 (l1.length : Int) (wrap64 (x15_1 + 1))) = some (r1, r2, r3, r4, r5) := H
       have A19 := a0_ A190
       clear A190
       have H' := a0_ H
       clear H
       have p115 : 0 ≤ (x15_1 : Int) := od_ (by first | (with_reducible assumption) | assumption)
       have q115 : x15_1 < (l1.length : Int) := od_ (by first | (with_reducible assumption) | assumption)
       obtain ⟨ad115, A115_0, c115_0, e115, hx115_0, hl115_0, hi115_0⟩ := at_L4 HR1.out x15_1 p115 q115
       cases e115
       replace hx115_0 := (HB.out.cell (bl_ w _ hx115_0)).trans hx115_0
       have HR115_0 := a0_ hi115_0
       have HC115_0 := a0_ hl115_0
       clear hi115_0 hl115_0
       replace p115 := eq_true p115
       replace q115 := eq_true q115
       obtain ⟨Ao20, co20, eo20⟩ := Kd.V_slice HO_0.out
       subst eo20
       go_wp2_with (first | ((with_reducible refine gate_callee (f := 32) rfl ?_); refine goesL_ (some 23) rfl rfl Try.func32 (by kernel_rfl) rfl #[.slice Ao20 x0_1.length co20, .slice A115_0 (rd_L4 l1 x15_1).length c115_0] rfl (by (try simp only [List.map_toArray, List.map_cons, List.map_nil]); first | done | rfl | (simp only [List.length_drop, List.length_take]; rfl)) ?_; (with_reducible refine (trial_Apply.calls k1 _ _ x0_1 _ _ (rd_L4 l1 x15_1) t116 t119 t120 t121 _ ?side1 ?side2 ?side3 ?side4 A7.out).mono ?_); (case side1 => repeat (first | exact (Kd.V_reads' HO_0.out).2.2 | (with_reducible refine Kd.C_alloc ?_ _) | (with_reducible refine Kd.C_drewN ?_ _) | (with_reducible refine Kd.C_drew ?_))); (case side2 => exact (Kd.V_reads' HO_0.out).2.1); (case side3 => repeat (first | exact (Kd.C_below HR115_0.out HB.out) | (with_reducible refine Kd.C_alloc ?_ _) | (with_reducible refine Kd.C_drewN ?_ _) | (with_reducible refine Kd.C_drew ?_))); (case side4 => exact HC115_0.out); rintro e w21 ⟨v117, rfl, ho0, hb⟩; refine ⟨_, rfl, ?_⟩; replace HO_0 := a0_ (Kd.V_elder' (by exact HO_0.out) (Kd.R_base ho0) hb); have HO118 := a0_ (Kd.R_lower (Kd.R_newM (M := fun k_ => (w.heap.size ≤ k_)) ho0 (bZ_ (by exact HB.out)) (fun k_ h_ => h_)) (bZ_ (by exact HB.out))); replace BK114 := a0_ (kB_ (g := gb114) (o := .cells #[.int .i64 x115000_1, .int .i64 x115001_1, .int .i64 x115002_1] 30 (0, 0)) (by exact BK114.out) hb); replace HB := a0_ (bT_ (by exact HB.out) hb); (try clear hb); (try clear hb2); (try clear hk); (try clear hi); (try clear ho0)) | ((with_reducible refine gate_dst (N := 12) rfl ?_); refine box_event ?hg (N := 12) ?hd (cs := #[.int .i64 0, .int .i64 0, .int .i64 0]) (t := 30) ?hr ?_; (case hd => rfl); (case hg => rfl); (case hr => first | (go_simp; done) | (go_simp; rfl)); intro gb122 hg w22 hbox hb; replace HO_0 := a0_ (Kd.V_below (Kd.V_elderB (by exact HO_0.out) gb122 (Nat.le_of_eq hg.symm)) hb); replace HO118 := a0_ (Kd.R_below (by exact HO118.out) hb); have BK122 := a0_ (hbox); have GW122 := a0_ ((by rw [hg]; exact (bZ_ (by exact HB.out)) : w.heap.size ≤ gb122)); have GE122 := a0_ ((by rw [hg]; exact (bZ_ (by exact HB.out)) : w.heap.size ≤ gb122)); replace HB := a0_ (bT_ (by exact HB.out) hb); have NB114_122 := a0_ ((by rw [hg]; exact Nat.ne_of_lt (blk_lt (g := gb114) (o := .cells #[.int .i64 x115000_1, .int .i64 x115001_1, .int .i64 x115002_1] 30 (0, 0)) (by exact BK114.out)) : gb114 ≠ gb122)); have NB122_114 := a0_ ((by rw [hg]; exact Nat.ne_of_gt (blk_lt (g := gb114) (o := .cells #[.int .i64 x115000_1, .int .i64 x115001_1, .int .i64 x115002_1] 30 (0, 0)) (by exact BK114.out)) : gb122 ≠ gb114)); replace BK114 := a0_ (kB_ (g := gb114) (o := .cells #[.int .i64 x115000_1, .int .i64 x115001_1, .int .i64 x115002_1] 30 (0, 0)) (by exact BK114.out) hb); clear hb hbox hg; have hnb23 := NB122_114.out; have hnc23 := NB114_122.out; have hcz24_0 : w22.cell? ⟨gb122, 0, none⟩ = some (.int .i64 0) := (blk_cell BK122.out 0).trans rfl; have hcz24_1 : w22.cell? ⟨gb122, 1, none⟩ = some (.int .i64 0) := (blk_cell BK122.out 1).trans rfl; have hcz24_2 : w22.cell? ⟨gb122, 2, none⟩ = some (.int .i64 0) := (blk_cell BK122.out 2).trans rfl; have hfz24_0 := kF_ BK122.out 0; have hfz24_1 := kF_ BK122.out 1; have hfz24_2 := kF_ BK122.out 2) | (go_at_call 21; (with_reducible refine (merge_Net_1.calls _ _ x0_1 _ _ (rd_L4 l1 x15_1)  _ ?side1 ?side2 ?side3 ?side4 A19.out).mono ?_); (case side1 => refine (Kd.V_reads' (e := 36) (base := w.heap.size) (ok := fun k_ => ((((P0_ k_ ∨ w.heap.size ≤ k_) ∧ k_ ≠ gb114) ∧ some k_ ≠ (v117 : Value).ownBlock) ∧ k_ ≠ gb122)) (n := x0_1.length) (c := co20) ?_).2.2; exact (by (with_reducible repeat (first | apply Kd.V_alloc | apply Kd.V_drewN | apply Kd.V_drew)); exact (Kd.V_mono (Kd.V_far (p := ⟨gb122, 2, none⟩) (Kd.V_far (p := ⟨gb122, 1, none⟩) (Kd.V_far (p := ⟨gb122, 0, none⟩) (Kd.V_mono HO_0.out (fun k_ hk => (⟨hk, hk.2⟩ : _ ∧ k_ ≠ gb122))) (fun _ hk => hk.2) (.int .i64 t119)) (fun _ hk => hk.2) (.int .i64 t120)) (fun _ hk => hk.2) (.int .i64 t121)) (fun _ h_ => h_.1)))); (case side2 => exact (Kd.V_reads' HO_0.out).2.1); (case side3 => exact Kd.C_below HR115_0.out (by repeat (first | (with_reducible first | exact HB.out | apply bA_ | apply bN_ | apply bD_ | refine bS_ ?_ GE114.out | refine bS_ ?_ GE122.out) | exact HB.out))); (case side4 => exact HC115_0.out); rintro e w' ⟨rfl, ⟨nd, rfl⟩⟩))
       go_roundg k1
       case measure => have := HK1.out; omega
       case rel => exact ⟨(t116), (wrap64 (x15_1 + 1)), (x115000_1), (x115001_1), (x115002_1), (by first | rfl | (simp; done) | (simp [*]; done)), H', ⟨by have := HK1.out; omega⟩, ⟨Kd.R_V (by (with_reducible repeat (first | apply Kd.R_alloc | apply Kd.R_drewN | apply Kd.R_drew)); exact Kd.R_mono (Kd.R_far (p := ⟨gb122, 2, none⟩) (Kd.R_far (p := ⟨gb122, 1, none⟩) (Kd.R_far (p := ⟨gb122, 0, none⟩) (Kd.R_types (Kd.R_types HO118.out BK114.out (by decide)) BK122.out (by decide)) (fun _ hk => hk.2) (.int .i64 t119)) (fun _ hk => hk.2) (.int .i64 t120)) (fun _ hk => hk.2) (.int .i64 t121)) (fun _ hk => ⟨.inr hk.1.1.1, hk.1.2⟩))⟩, ⟨by (with_reducible repeat (first | refine kN_ ?_ _ | refine kD_ ?_ | refine kA_ ?_ _)); refine blk_far ?_ NB114_122.out _; (with_reducible repeat (first | refine kN_ ?_ _ | refine kD_ ?_ | refine kA_ ?_ _)); refine blk_far ?_ NB114_122.out _; (with_reducible repeat (first | refine kN_ ?_ _ | refine kD_ ?_ | refine kA_ ?_ _)); refine blk_far ?_ NB114_122.out _; (with_reducible repeat (first | refine kN_ ?_ _ | refine kD_ ?_ | refine kA_ ?_ _)); exact BK114.out⟩, ⟨by repeat (first | (with_reducible first | exact HB.out | apply bA_ | apply bN_ | apply bD_ | refine bS_ ?_ GE114.out | refine bS_ ?_ GE122.out) | exact HB.out)⟩⟩
     ·rw [if_neg c6] at H
      exact absurd H (by simp)
    ·rw [if_neg c5] at H
     exact absurd H (by simp)
   ·rw [if_neg c4] at H
    have c4b0 : decide (x15_1 < (l1.length : Int)) = false := decide_eq_false c4
    clear c4
    simp only [Option.some.injEq, Prod.mk.injEq] at H
    obtain ⟨rfl, rfl, rfl, rfl, rfl⟩ := H
    have hcz25_0 : wr.cell? ⟨gb114, 0, none⟩ = some (.int .i64 x115000_1) := (blk_cell BK114.out 0).trans rfl
    have hcz25_1 : wr.cell? ⟨gb114, 1, none⟩ = some (.int .i64 x115001_1) := (blk_cell BK114.out 1).trans rfl
    have hcz25_2 : wr.cell? ⟨gb114, 2, none⟩ = some (.int .i64 x115002_1) := (blk_cell BK114.out 2).trans rfl
    have hfz25_0 := kF_ BK114.out 0
    have hfz25_1 := kF_ BK114.out 1
    have hfz25_2 := kF_ BK114.out 2
    go_wp2
    refine bodyPost_ret (results_list (rs := [.tmp 6, .tmp 7, .cell 8 30]) rfl (by simp) (.tmp (.tmp (.cell gb114 30 #[.int .i64 0, .int .i64 0, .int .i64 0] (0, 0) _ rfl (by refine blk_put (cs := #[.int .i64 0, .int .i64 0, .int .i64 x115002_1]) ?_ 2 _ rfl; refine blk_put (cs := #[.int .i64 0, .int .i64 x115001_1, .int .i64 x115002_1]) ?_ 1 _ rfl; refine blk_put (cs := #[.int .i64 x115000_1, .int .i64 x115001_1, .int .i64 x115002_1]) ?_ 0 _ rfl; exact BK114.out) Try.underlying30 rfl (by kernel_rfl) .nil)))) rfl ?_
    exact ⟨_, by first | rfl | (simp [errW_none, errW_some] <;> rfl) | (simp [*, errW_none, errW_some] <;> rfl), by (with_reducible repeat (first | apply Kd.V_alloc | apply Kd.V_drewN | apply Kd.V_drew)); exact Kd.V_mono (Kd.V_far (p := ⟨gb114, 2, none⟩) (Kd.V_far (p := ⟨gb114, 1, none⟩) (Kd.V_far (p := ⟨gb114, 0, none⟩) (Kd.V_mono HO_0.out (fun k_ hk => (⟨hk, hk.2⟩ : _ ∧ k_ ≠ gb114))) (fun _ hk => hk.2) (.int .i64 0)) (fun _ hk => hk.2) (.int .i64 0)) (fun _ hk => hk.2) (.int .i64 0)) (fun _ hk => hk.1.1), by repeat (first | (with_reducible first | exact HB.out | apply bA_ | apply bN_ | apply bD_ | refine bS_ ?_ GE114.out) | exact HB.out)⟩
end Go.Proofs.Ytclcnglamlegiaa.PMD
