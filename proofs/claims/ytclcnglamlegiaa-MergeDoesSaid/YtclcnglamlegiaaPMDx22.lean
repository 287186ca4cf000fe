-- Written by ownprint.py, a program of this session (out of the kit's print, with contracts of the session's own).
import Derived.Test.YtclcnglamlegiaaWMore
import Derived.Test.YtclcnglamlegiaaPMDx0
import Derived.Test.YtclcnglamlegiaaPMDx17
import Derived.Test.YtclcnglamlegiaaPMDx19
import Derived.Test.YtclcnglamlegiaaPMDx21
namespace Go.Proofs.Ytclcnglamlegiaa.PMD
open Go.RowKit Go.Proofs.YtclcnglamlegiaaW.PrintWords Go.Proofs.YtclcnglamlegiaaW.PrintLast Go.Proofs.YtclcnglamlegiaaW.PrintMore
attribute [local go_sem] max2_int min2_int max_two min_two max_three min_three max_four min_four   -- for this text's walks alone
set_option linter.unusedVariables false
set_option linter.unusedSimpArgs false
attribute [local go_sem high] eqA30
/-! ### orielref17_Apply: function 11 -/
def orielref17_Apply.l0 : Nat → List (S36) → List (S34) → List (S36) → Int → Option ((List (S36)) × Int × Int × Int)
 | 0, _, _, _, _ => none
 | k + 1, x0, x1, x7, x8 => if x8 < (x7.length : Int) then (if 0 ≤ x8 then (if x8 < (x0.length : Int) then ((orielref17_Of.f k x8 x1).bind fun t223 => ((orielref02_Apply.f k ((rd_T36 x0 x8).f1) t223).bind fun bt226 => (orielref17_Apply.l0 k x0 x1 (x7.set (x8 : Int).toNat (⟨(rd_T36 x7 x8).f0, bt226.1⟩ : S36)) (wrap64 (x8 + 1))))) else (none)) else (none)) else (some (x7, 0, 0, 0))
def orielref17_Apply.f (k : Nat) (l0 : List (S36)) (l1 : List (S34)) : Option ((List (S36)) × Int × Int × Int) := (orielref17_Check.f k l0 l1).bind fun bt212 => (if (!(bt212.1 == 0) || (!(bt212.2.1 == 0) || (!(bt212.2.2 == 0)))) = true then (some (([] : List (S36)), bt212.1, bt212.2.1, bt212.2.2)) else ((some (([] : List (S36)) : List (S36))).bind fun y216 => (if y216.length + l0.length < 4398046511104 then (orielref17_Apply.l0 k l0 l1 (y216 ++ l0) 0) else (none))))
def orielref17_Apply.T8 : Bool × List (List Nat × List Nat) := (true, [([], []), ([], []), ([0, 1], [0, 1]), ([2], [2]), ([3], [3]), ([], []), ([], []), ([5, 6], [5, 6]), ([4, 7, 7], [4, 7]), ([8], [8]), ([9], [9]), ([9], [9]), ([10, 8, 0, 1, 2, 3, 4, 5, 6, 7, 8, 9, 10], [10]), ([11, 12, 0, 1, 2, 3, 4, 5, 6, 7, 8, 9, 10, 11, 12], [11])])
def orielref17_Apply.B8 : List Nat := [0, 0, 3, 7, 15, 0, 0, 96, 255, 511, 1023, 1023, 2047, 8191]
theorem orielref17_Apply.tab8 : rtab .any (opsOf Try.f11 8) = orielref17_Apply.T8 := by kernel_rfl
theorem orielref17_Apply.bits8 : waitsOk orielref17_Apply.T8.2 orielref17_Apply.B8 = true := by kernel_rfl
set_option maxHeartbeats 8000000 in
set_option maxRecDepth 100000 in
theorem orielref17_Apply.calls (k : Nat) (A0 : Option Addr) (c0 : Nat) (l0 : List (S36)) (A1 : Option Addr) (c1 : Nat) (l1 : List (S34)) (r1 : List (S36)) (r2 : Int) (r3 : Int) (r4 : Int) (w : World) (hr0 : Kd.C k36 w A0 l0.length l0) (hc0 : l0.length ≤ c0) (hr1 : Kd.C k34 w A1 l1.length l1) (hc1 : l1.length ≤ c1) (h : orielref17_Apply.f k l0 l1 = some (r1, r2, r3, r4)) :
  Calls Try.prog 11 #[.slice A0 l0.length c0, .slice A1 l1.length c1] w fun e w' => ∃ v0_ : Value, e = .returned (.tuple #[v0_, .agg #[.int .i64 r2, .int .i64 r3, .int .i64 r4]]) ∧ Kd.R k36 36 w' w.heap.size (fun _ => True) v0_ r1 ∧ Below w.heap.size w w' := by
 have hu30 := Try.underlying30
 have HR0 := a0_ hr0
 have HC0 := a0_ hc0
 clear hr0 hc0
 have HR1 := a0_ hr1
 have HC1 := a0_ hc1
 clear hr1 hc1
 have HB := a0_ (Below.refl w.heap.size w)
 have H : ((orielref17_Check.f k l0 l1).bind fun bt212 => (if (!(bt212.1 == 0) || (!(bt212.2.1 == 0) || (!(bt212.2.2 == 0)))) = true then (some (([] : List (S36)), bt212.1, bt212.2.1, bt212.2.2)) else ((some (([] : List (S36)) : List (S36))).bind fun y216 => (if y216.length + l0.length < 4398046511104 then (orielref17_Apply.l0 k l0 l1 (y216 ++ l0) 0) else (none))))) = some (r1, r2, r3, r4) := h
 clear h
 replace H := ob_ H
 obtain ⟨⟨t212, t213, t214⟩, A30, H⟩ := H
 dsimp only at H
 have A3 := a0_ A30
 clear A30
 by_cases c4 : (!(t212 == 0) || (!(t213 == 0) || (!(t214 == 0)))) = true
 ·rw [if_pos c4] at H
  have c4b0 : (!(t212 == 0) || (!(t213 == 0) || (!(t214 == 0)))) = true := c4
  clear c4
  simp only [Option.some.injEq, Prod.mk.injEq] at H
  obtain ⟨rfl, rfl, rfl, rfl⟩ := H
  go_enter Try.func11, Try.ntmps11
  try go_wp2_with (first | ((with_reducible refine gate_dst (N := 5) rfl ?_); refine box_event ?hg (N := 5) ?hd (cs := #[.int .i64 0, .int .i64 0, .int .i64 0]) (t := 30) ?hr ?_; (case hd => rfl); (case hg => rfl); (case hr => first | (go_simp; done) | (go_simp; rfl)); intro gb211 hg w5 hbox hb; have BK211 := a0_ (hbox); have GW211 := a0_ ((by rw [hg]; exact (bZ_ (by exact HB.out)) : w.heap.size ≤ gb211)); have GE211 := a0_ ((by rw [hg]; exact (bZ_ (by exact HB.out)) : w.heap.size ≤ gb211)); replace HB := a0_ (bT_ (by exact HB.out) hb); clear hb hbox hg) | ((with_reducible refine gate_callee (f := 24) rfl ?_); refine goesL_ (some 13) rfl rfl Try.func24 (by kernel_rfl) rfl #[.slice A0 l0.length c0, .slice A1 l1.length c1] rfl (by (try simp only [List.map_toArray, List.map_cons, List.map_nil]); first | done | rfl | (simp only [List.length_drop, List.length_take]; rfl)) ?_; (with_reducible refine (orielref17_Check.calls k _ _ l0 _ _ l1 t212 t213 t214 _ ?side1 ?side2 ?side3 ?side4 A3.out).mono ?_); (case side1 => repeat (first | exact (Kd.C_below HR0.out HB.out) | (with_reducible refine Kd.C_alloc ?_ _) | (with_reducible refine Kd.C_drewN ?_ _) | (with_reducible refine Kd.C_drew ?_))); (case side2 => exact HC0.out); (case side3 => repeat (first | exact (Kd.C_below HR1.out HB.out) | (with_reducible refine Kd.C_alloc ?_ _) | (with_reducible refine Kd.C_drewN ?_ _) | (with_reducible refine Kd.C_drew ?_))); (case side4 => exact HC1.out); rintro e w6 ⟨rfl, hb⟩; refine ⟨_, rfl, ?_⟩; replace BK211 := a0_ (kB_ (g := gb211) (o := .cells #[.int .i64 0, .int .i64 0, .int .i64 0] 30 (0, 0)) (by exact BK211.out) hb); replace HB := a0_ (bT_ (by exact HB.out) hb); (try clear hb); (try clear hb2); (try clear hk); (try clear hi)) | ((with_reducible refine gate_dst (N := 6) rfl ?_); refine box_event ?hg (N := 6) ?hd (cs := #[.int .i64 0, .int .i64 0, .int .i64 0]) (t := 30) ?hr ?_; (case hd => rfl); (case hg => rfl); (case hr => first | (go_simp; done) | (go_simp; rfl)); intro gb215 hg w7 hbox hb; have BK215 := a0_ (hbox); have GW215 := a0_ ((by rw [hg]; exact (bZ_ (by exact HB.out)) : w.heap.size ≤ gb215)); have GE215 := a0_ ((by rw [hg]; exact (bZ_ (by exact HB.out)) : w.heap.size ≤ gb215)); replace HB := a0_ (bT_ (by exact HB.out) hb); have NB211_215 := a0_ ((by rw [hg]; exact Nat.ne_of_lt (blk_lt (g := gb211) (o := .cells #[.int .i64 0, .int .i64 0, .int .i64 0] 30 (0, 0)) (by exact BK211.out)) : gb211 ≠ gb215)); have NB215_211 := a0_ ((by rw [hg]; exact Nat.ne_of_gt (blk_lt (g := gb211) (o := .cells #[.int .i64 0, .int .i64 0, .int .i64 0] 30 (0, 0)) (by exact BK211.out)) : gb215 ≠ gb211)); replace BK211 := a0_ (kB_ (g := gb211) (o := .cells #[.int .i64 0, .int .i64 0, .int .i64 0] 30 (0, 0)) (by exact BK211.out) hb); clear hb hbox hg; have hnb8 := NB215_211.out; have hnc8 := NB211_215.out; have hcz9_0 : w7.cell? ⟨gb215, 0, none⟩ = some (.int .i64 0) := (blk_cell BK215.out 0).trans rfl; have hcz9_1 : w7.cell? ⟨gb215, 1, none⟩ = some (.int .i64 0) := (blk_cell BK215.out 1).trans rfl; have hcz9_2 : w7.cell? ⟨gb215, 2, none⟩ = some (.int .i64 0) := (blk_cell BK215.out 2).trans rfl; have hfz9_0 := kF_ BK215.out 0; have hfz9_1 := kF_ BK215.out 1; have hfz9_2 := kF_ BK215.out 2))
  replace BK211 : Aside0 ((((w7.setCell ⟨gb215, 0, none⟩ (.int .i64 t212)).setCell ⟨gb215, 1, none⟩ (.int .i64 t213)).setCell ⟨gb215, 2, none⟩ (.int .i64 t214)).heap[gb211]? = some (.cells #[.int .i64 0, .int .i64 0, .int .i64 0] 30 (0, 0))) := ⟨by (with_reducible repeat (first | refine kN_ ?_ _ | refine kD_ ?_ | refine kA_ ?_ _)); refine blk_far ?_ NB211_215.out _; (with_reducible repeat (first | refine kN_ ?_ _ | refine kD_ ?_ | refine kA_ ?_ _)); refine blk_far ?_ NB211_215.out _; (with_reducible repeat (first | refine kN_ ?_ _ | refine kD_ ?_ | refine kA_ ?_ _)); refine blk_far ?_ NB211_215.out _; (with_reducible repeat (first | refine kN_ ?_ _ | refine kD_ ?_ | refine kA_ ?_ _)); exact BK211.out⟩
  replace BK215 : Aside0 ((((w7.setCell ⟨gb215, 0, none⟩ (.int .i64 t212)).setCell ⟨gb215, 1, none⟩ (.int .i64 t213)).setCell ⟨gb215, 2, none⟩ (.int .i64 t214)).heap[gb215]? = some (.cells #[.int .i64 t212, .int .i64 t213, .int .i64 t214] 30 (0, 0))) := ⟨by refine blk_put (cs := #[.int .i64 t212, .int .i64 t213, .int .i64 0]) ?_ 2 _ rfl; refine blk_put (cs := #[.int .i64 t212, .int .i64 0, .int .i64 0]) ?_ 1 _ rfl; refine blk_put (cs := #[.int .i64 0, .int .i64 0, .int .i64 0]) ?_ 0 _ rfl; exact BK215.out⟩
  replace HB : Aside0 (Below w.heap.size w (((w7.setCell ⟨gb215, 0, none⟩ (.int .i64 t212)).setCell ⟨gb215, 1, none⟩ (.int .i64 t213)).setCell ⟨gb215, 2, none⟩ (.int .i64 t214))) := ⟨by repeat (first | (with_reducible first | exact HB.out | apply bA_ | apply bN_ | apply bD_ | refine bS_ ?_ GE211.out | refine bS_ ?_ GE215.out) | exact HB.out)⟩
  generalize (((w7.setCell ⟨gb215, 0, none⟩ (.int .i64 t212)).setCell ⟨gb215, 1, none⟩ (.int .i64 t213)).setCell ⟨gb215, 2, none⟩ (.int .i64 t214)) = w10 at BK211 BK215 HB ⊢
  replace BK211 := a0_ (kD_ BK211.out)
  replace BK215 := a0_ (kD_ BK215.out)
  replace HB := a0_ (bD_ HB.out)
  refine start_ (n := 3) (S := fun w' => w'.cell? ⟨gb215, 0, none⟩ = some (.int .i64 t212) ∧ w'.cell? ⟨gb215, 1, none⟩ = some (.int .i64 t213) ∧ w'.cell? ⟨gb215, 2, none⟩ = some (.int .i64 t214)) (ds := []) #[false, false, false] (by kernel_rfl) rfl rfl ⟨(blk_cell BK215.out 0).trans rfl, (blk_cell BK215.out 1).trans rfl, (blk_cell BK215.out 2).trans rfl⟩ (fun hHeld => ?_)
  generalize w10.drew = w11 at BK211 BK215 HB hHeld ⊢
  refine pure_ (i := 1) (N := some 4) #[false, true, false] rfl rfl (by kernel_rfl) (fun _ _ _ h => h) (Or.inl ⟨by rfl, fun w' => by go_simp; with_reducible rfl⟩) (by simp only [ps_]; rfl) ?_
  refine take_ (i := 0) (N := some 17) (v := ?_) (a' := ?_) #[true, true, false] rfl rfl (by kernel_rfl) (fun _ _ _ h => h) (Or.inl ⟨by rfl, ?_⟩) hHeld ?_ ?_
  rotate_left
  ·rintro w' ⟨s0, s1, s2⟩
   go_simp
   with_reducible rfl
  rotate_left
  ·simp only [ps_]
   rfl
  refine one_ (i := 2) (N := none) #[true, true, true] rfl rfl (by kernel_rfl) (by decide) (fun K hK => ?_)
  have hs12 : w11.cell? ⟨gb211, 0, none⟩ = some (.int .i64 0) := (blk_cell BK211.out 0).trans rfl
  have hfs12 := kF_ BK211.out 0
  have hns12_1 := NB215_211.out
  have hms12_1 := NB211_215.out
  have hs13 : w11.cell? ⟨gb211, 1, none⟩ = some (.int .i64 0) := (blk_cell BK211.out 1).trans rfl
  have hfs13 := kF_ BK211.out 1
  have hns13_1 := NB215_211.out
  have hms13_1 := NB211_215.out
  have hs14 : w11.cell? ⟨gb211, 2, none⟩ = some (.int .i64 0) := (blk_cell BK211.out 2).trans rfl
  have hfs14 := kF_ BK211.out 2
  have hns14_1 := NB215_211.out
  have hms14_1 := NB211_215.out
  refine skip_ (w1 := ?_) (by rfl) rfl ?_ ?_
  rotate_left
  ·go_simp
   rfl
  refine hK.out _ _ ⟨((cell_far (p := ⟨gb211, _, none⟩) NB215_211.out _).trans (((cell_far (p := ⟨gb211, _, none⟩) NB215_211.out _).trans (((cell_far (p := ⟨gb211, _, none⟩) NB215_211.out _).trans (hHeld.1)))))), ((cell_far (p := ⟨gb211, _, none⟩) NB215_211.out _).trans (((cell_far (p := ⟨gb211, _, none⟩) NB215_211.out _).trans (((cell_far (p := ⟨gb211, _, none⟩) NB215_211.out _).trans (hHeld.2.1)))))), ((cell_far (p := ⟨gb211, _, none⟩) NB215_211.out _).trans (((cell_far (p := ⟨gb211, _, none⟩) NB215_211.out _).trans (((cell_far (p := ⟨gb211, _, none⟩) NB215_211.out _).trans (hHeld.2.2))))))⟩ (fun hHeld => ?_)
  clear hK K
  refine done_ (by kernel_rfl) ?_
  try go_wp2
  refine bodyPost_ret (results_tc rfl _ _ gb211 30 #[.int .i64 t212, .int .i64 t213, .int .i64 t214] (0, 0) _ rfl (by (with_reducible repeat (first | refine kN_ ?_ _ | refine kD_ ?_ | refine kA_ ?_ _)); refine blk_put (cs := #[.int .i64 t212, .int .i64 t213, .int .i64 0]) ?_ 2 _ rfl; (with_reducible repeat (first | refine kN_ ?_ _ | refine kD_ ?_ | refine kA_ ?_ _)); refine blk_put (cs := #[.int .i64 t212, .int .i64 0, .int .i64 0]) ?_ 1 _ rfl; (with_reducible repeat (first | refine kN_ ?_ _ | refine kD_ ?_ | refine kA_ ?_ _)); refine blk_put (cs := #[.int .i64 0, .int .i64 0, .int .i64 0]) ?_ 0 _ rfl; (with_reducible repeat (first | refine kN_ ?_ _ | refine kD_ ?_ | refine kA_ ?_ _)); exact BK211.out) Try.underlying30 rfl (by kernel_rfl)) rfl ?_
  exact ⟨_, by first | rfl | (simp [errW_none, errW_some] <;> rfl) | (simp [*, errW_none, errW_some] <;> rfl), by first | exact Kd.R_nil _ _ _ _ _ | exact Kd.N_nil _ _ _ _ _ | exact Kd.V_nil _ _ _ _ _ | exact Kd.Q_nil _ _ _ _ _ | exact Kd.S_nil _ _ _ _ _, by repeat (first | (with_reducible first | exact HB.out | apply bA_ | apply bN_ | apply bD_ | refine bS_ ?_ GE211.out | refine bS_ ?_ GE215.out) | exact HB.out)⟩
 ·rw [if_neg c4] at H
  have c4b0 : (!(t212 == 0) || (!(t213 == 0) || (!(t214 == 0)))) = false := by simpa using c4
  clear c4
  obtain ⟨y216, hy216⟩ : ∃ y_ : List (S36), y_ = (([] : List (S36))) := ⟨_, rfl⟩
  replace H : (if y216.length + l0.length < 4398046511104 then (orielref17_Apply.l0 k l0 l1 (y216 ++ l0) 0) else (none)) = some (r1, r2, r3, r4) := by first | (rw [hy216]; with_reducible exact H) | (have H2_ := (Option.bind_some _ _).symm.trans H; rw [hy216]; with_reducible exact H2_) | (have H2_ := (Option.bind_some _ _).symm.trans H; with_reducible exact H2_) | with_reducible exact H | (rw [hy216]; exact H) | exact H
  have Ny216 := a0_ hy216
  clear hy216
  by_cases c15 : y216.length + l0.length < 4398046511104
  ·rw [if_pos c15] at H
   have LMc15 := a0_ c15
   clear c15
   obtain ⟨y219, hy219⟩ : ∃ y_ : List (S36), y_ = (y216 ++ l0) := ⟨_, rfl⟩
   replace H : (orielref17_Apply.l0 k l0 l1 y219 0) = some (r1, r2, r3, r4) := by first | (rw [hy219]; with_reducible exact H) | (have H2_ := (Option.bind_some _ _).symm.trans H; rw [hy219]; with_reducible exact H2_) | (have H2_ := (Option.bind_some _ _).symm.trans H; with_reducible exact H2_) | with_reducible exact H | (rw [hy219]; exact H) | exact H
   have Ny219 := a0_ hy219
   clear hy219
   have H' := a0_ H
   clear H
   go_enter Try.func11, Try.ntmps11
   go_wp2_with (first | ((with_reducible refine gate_dst (N := 5) rfl ?_); refine box_event ?hg (N := 5) ?hd (cs := #[.int .i64 0, .int .i64 0, .int .i64 0]) (t := 30) ?hr ?_; (case hd => rfl); (case hg => rfl); (case hr => first | (go_simp; done) | (go_simp; rfl)); intro gb211 hg w16 hbox hb; have BK211 := a0_ (hbox); have GW211 := a0_ ((by rw [hg]; exact (bZ_ (by exact HB.out)) : w.heap.size ≤ gb211)); have GE211 := a0_ ((by rw [hg]; exact (bZ_ (by exact HB.out)) : w.heap.size ≤ gb211)); replace HB := a0_ (bT_ (by exact HB.out) hb); clear hb hbox hg) | ((with_reducible refine gate_callee (f := 24) rfl ?_); refine goesL_ (some 13) rfl rfl Try.func24 (by kernel_rfl) rfl #[.slice A0 l0.length c0, .slice A1 l1.length c1] rfl (by (try simp only [List.map_toArray, List.map_cons, List.map_nil]); first | done | rfl | (simp only [List.length_drop, List.length_take]; rfl)) ?_; (with_reducible refine (orielref17_Check.calls k _ _ l0 _ _ l1 t212 t213 t214 _ ?side1 ?side2 ?side3 ?side4 A3.out).mono ?_); (case side1 => repeat (first | exact (Kd.C_below HR0.out HB.out) | (with_reducible refine Kd.C_alloc ?_ _) | (with_reducible refine Kd.C_drewN ?_ _) | (with_reducible refine Kd.C_drew ?_))); (case side2 => exact HC0.out); (case side3 => repeat (first | exact (Kd.C_below HR1.out HB.out) | (with_reducible refine Kd.C_alloc ?_ _) | (with_reducible refine Kd.C_drewN ?_ _) | (with_reducible refine Kd.C_drew ?_))); (case side4 => exact HC1.out); rintro e w17 ⟨rfl, hb⟩; refine ⟨_, rfl, ?_⟩; replace BK211 := a0_ (kB_ (g := gb211) (o := .cells #[.int .i64 0, .int .i64 0, .int .i64 0] 30 (0, 0)) (by exact BK211.out) hb); replace HB := a0_ (bT_ (by exact HB.out) hb); (try clear hb); (try clear hb2); (try clear hk); (try clear hi)) | ((with_reducible refine gate_dst (N := 6) rfl ?_); refine box_event ?hg (N := 6) ?hd (cs := #[.int .i64 0, .int .i64 0, .int .i64 0]) (t := 30) ?hr ?_; (case hd => rfl); (case hg => rfl); (case hr => first | (go_simp; done) | (go_simp; rfl)); intro gb215 hg w18 hbox hb; have BK215 := a0_ (hbox); have GW215 := a0_ ((by rw [hg]; exact (bZ_ (by exact HB.out)) : w.heap.size ≤ gb215)); have GE215 := a0_ ((by rw [hg]; exact (bZ_ (by exact HB.out)) : w.heap.size ≤ gb215)); replace HB := a0_ (bT_ (by exact HB.out) hb); have NB211_215 := a0_ ((by rw [hg]; exact Nat.ne_of_lt (blk_lt (g := gb211) (o := .cells #[.int .i64 0, .int .i64 0, .int .i64 0] 30 (0, 0)) (by exact BK211.out)) : gb211 ≠ gb215)); have NB215_211 := a0_ ((by rw [hg]; exact Nat.ne_of_gt (blk_lt (g := gb211) (o := .cells #[.int .i64 0, .int .i64 0, .int .i64 0] 30 (0, 0)) (by exact BK211.out)) : gb215 ≠ gb211)); replace BK211 := a0_ (kB_ (g := gb211) (o := .cells #[.int .i64 0, .int .i64 0, .int .i64 0] 30 (0, 0)) (by exact BK211.out) hb); clear hb hbox hg; have hnb19 := NB215_211.out; have hnc19 := NB211_215.out; have hcz20_0 : w18.cell? ⟨gb215, 0, none⟩ = some (.int .i64 0) := (blk_cell BK215.out 0).trans rfl; have hcz20_1 : w18.cell? ⟨gb215, 1, none⟩ = some (.int .i64 0) := (blk_cell BK215.out 1).trans rfl; have hcz20_2 : w18.cell? ⟨gb215, 2, none⟩ = some (.int .i64 0) := (blk_cell BK215.out 2).trans rfl; have hfz20_0 := kF_ BK215.out 0; have hfz20_1 := kF_ BK215.out 1; have hfz20_2 := kF_ BK215.out 2) | ((with_reducible refine gate_dst (N := 18) rfl ?_); refine Kd.R_lit k36 _ 36 ?hg (N := 18) ?hd (xs := ([] : List (S36))) (inner := []) (ok := fun _ => True) (okp := fun _ => True) ?hr ?hp (fun _ hk => hk) trivial (Below.refl _ _) (Nat.le_refl _) (by simp) ?_; (case hd => rfl); (case hg => rfl); (case hr => first | (go_simp; done) | (go_simp; rfl)); (case hp => exact (Reps.none _ _)); intro v217 w21 ho22 hb hg_ hnew_; clear hg_ hnew_; (first | rw [← Ny216.out] at ho22 | (simp only [Int.reduceToNat] at ho22; rw [← Ny216.out] at ho22)); have HO218 := a0_ (Kd.R_lower ho22 (bZ_ (by repeat (first | (with_reducible first | exact HB.out | apply bA_ | apply bN_ | apply bD_ | refine bS_ ?_ GE211.out | refine bS_ ?_ GE215.out) | exact HB.out)))); replace BK211 := a0_ (kB_ (g := gb211) (o := .cells #[.int .i64 0, .int .i64 0, .int .i64 0] 30 (0, 0)) (by (with_reducible repeat (first | refine kN_ ?_ _ | refine kD_ ?_ | refine kA_ ?_ _)); refine blk_far ?_ NB211_215.out _; (with_reducible repeat (first | refine kN_ ?_ _ | refine kD_ ?_ | refine kA_ ?_ _)); refine blk_far ?_ NB211_215.out _; (with_reducible repeat (first | refine kN_ ?_ _ | refine kD_ ?_ | refine kA_ ?_ _)); refine blk_far ?_ NB211_215.out _; (with_reducible repeat (first | refine kN_ ?_ _ | refine kD_ ?_ | refine kA_ ?_ _)); exact BK211.out) hb); replace BK215 := a0_ (kB_ (g := gb215) (o := .cells #[.int .i64 t212, .int .i64 t213, .int .i64 t214] 30 (0, 0)) (by (with_reducible repeat (first | refine kN_ ?_ _ | refine kD_ ?_ | refine kA_ ?_ _)); refine blk_put (cs := #[.int .i64 t212, .int .i64 t213, .int .i64 0]) ?_ 2 _ rfl; (with_reducible repeat (first | refine kN_ ?_ _ | refine kD_ ?_ | refine kA_ ?_ _)); refine blk_put (cs := #[.int .i64 t212, .int .i64 0, .int .i64 0]) ?_ 1 _ rfl; (with_reducible repeat (first | refine kN_ ?_ _ | refine kD_ ?_ | refine kA_ ?_ _)); refine blk_put (cs := #[.int .i64 0, .int .i64 0, .int .i64 0]) ?_ 0 _ rfl; (with_reducible repeat (first | refine kN_ ?_ _ | refine kD_ ?_ | refine kA_ ?_ _)); exact BK215.out) hb); replace HB := a0_ (bT_ (by repeat (first | (with_reducible first | exact HB.out | apply bA_ | apply bN_ | apply bD_ | refine bS_ ?_ GE211.out | refine bS_ ?_ GE215.out) | exact HB.out)) hb); clear hb ho22) | ((with_reducible refine gate_builtin (b := .append) (xs := #[.tmp 18, .tmp 19]) rfl ?_); at_builtin; refine Kd.R_append_rows k36 (w0 := w) w.heap.size rfl (.tmp 18) (.tmp 19) 22 36 (.agg #[(.string ⟨#[]⟩), (.string ⟨#[]⟩)]) 32 rfl Try.underlying22 info36 rfl (by decide) (by omega) v217 y216 l0 _ _ _ (fun _ => True) (fun _ => False) rfl rfl ?aO ?aR (fun _ _ h => h) (fun _ h => h.elim) ?aF ?aB ?aS ?aL ?_; (case aR => repeat (first | exact (Kd.C_below HR0.out HB.out) | (with_reducible refine Kd.C_alloc ?_ _) | (with_reducible refine Kd.C_drewN ?_ _) | (with_reducible refine Kd.C_drew ?_))); (case aB => exact (by exact HB.out)); (case aF => exact (fun _ _ => trivial)); (case aO => exact (by exact HO218.out)); (case aS => exact (bZ_ (by exact HB.out))); (case aL => have := LMc15.out; omega); intro v220 w23 ho hb hg hat; rw [← Ny219.out] at ho; replace BK211 := a0_ (blk_grown (g := gb211) (o := .cells #[.int .i64 0, .int .i64 0, .int .i64 0] 30 (0, 0)) (by exact BK211.out) hg (Kd.R_ne HO218.out BK211.out (by decide))); replace BK215 := a0_ (blk_grown (g := gb215) (o := .cells #[.int .i64 t212, .int .i64 t213, .int .i64 t214] 30 (0, 0)) (by exact BK215.out) hg (Kd.R_ne HO218.out BK215.out (by decide))); replace HB := a0_ (hb); have HO221 := a0_ (ho); clear HO218; clear ho hb hg hat))
   go_loopg [8] k (fun kq v8 w' => ∃ (x7_1 : List (S36)) (x8_1 : Int), v8 = .int .i64 x8_1 ∧ Aside0 (orielref17_Apply.l0 kq l0 l1 x7_1 x8_1 = some (r1, r2, r3, r4)) ∧ Aside0 (kq ≤ k) ∧ Aside0 (Kd.R k36 36 w' w.heap.size (fun _ => True) v220 x7_1) ∧ Aside0 (w'.heap[gb211]? = some (.cells #[.int .i64 0, .int .i64 0, .int .i64 0] 30 (0, 0))) ∧ Aside0 (w'.heap[gb215]? = some (.cells #[.int .i64 t212, .int .i64 t213, .int .i64 t214] 30 (0, 0))) ∧ Aside0 (Below w.heap.size w w'))
   case atStart => exact ⟨(y219), (0), (by first | rfl | (simp; done) | (simp [*]; done)), H', ⟨Nat.le_refl _⟩, ⟨by exact HO221.out⟩, ⟨by exact BK211.out⟩, ⟨by exact BK215.out⟩, ⟨by exact HB.out⟩⟩
   case round =>
    clear H'
    obtain ⟨x7_1, x8_1, rfl, HA, HK1, HO_7, BK211, BK215, HB⟩ := hrel
    cases gk with
    | zero => exact absurd HA.out (by simp [orielref17_Apply.l0])
    | succ k1 =>
     have H := HA.out
     clear HA
     simp only [orielref17_Apply.l0] at H
     by_cases c24 : x8_1 < (x7_1.length : Int)
     ·rw [if_pos c24] at H
      have c24b0 := decide_eq_true c24
      clear c24
      by_cases c25 : 0 ≤ x8_1
      ·rw [if_pos c25] at H
       have c25b0 := decide_eq_true c25
       clear c25
       by_cases c26 : x8_1 < (l0.length : Int)
       ·rw [if_pos c26] at H
        have c26b0 := decide_eq_true c26
        clear c26
        replace H := ob_ H
        obtain ⟨t223, A270, H⟩ := H
        replace H : ((orielref02_Apply.f k1 ((rd_T36 l0 x8_1).f1) t223).bind fun bt226 => (orielref17_Apply.l0 k1 l0 l1 (x7_1.set (x8_1 : Int).toNat (⟨(rd_T36 x7_1 x8_1).f0, bt226.1⟩ : S36)) (wrap64 (x8_1 + 1)))) = some (r1, r2, r3, r4) := H
        have A27 := a0_ A270
        clear A270
        replace H := ob_ H
        obtain ⟨⟨t226, t227⟩, A280, H⟩ := H
        dsimp only at H
        have A28 := a0_ A280
        clear A280
        obtain ⟨y228, hy228⟩ : ∃ y_ : List (S36), y_ = (x7_1.set (x8_1 : Int).toNat (⟨(rd_T36 x7_1 x8_1).f0, t226⟩ : S36)) := ⟨_, rfl⟩
        replace H : (orielref17_Apply.l0 k1 l0 l1 y228 (wrap64 (x8_1 + 1))) = some (r1, r2, r3, r4) := by first | (rw [hy228]; with_reducible exact H) | (have H2_ := (Option.bind_some _ _).symm.trans H; rw [hy228]; with_reducible exact H2_) | (have H2_ := (Option.bind_some _ _).symm.trans H; with_reducible exact H2_) | with_reducible exact H | (rw [hy228]; exact H) | exact H
        have Ny228 := a0_ hy228
        clear hy228
        have H' := a0_ H
        clear H
        obtain ⟨Ao30, co30, eo30⟩ := Kd.R_slice HO_7.out
        subst eo30
        try go_wp2
        replace HO_7 := a0_ (Kd.R_drew HO_7.out)
        replace BK211 := a0_ (kD_ BK211.out)
        replace BK215 := a0_ (kD_ BK215.out)
        replace HB := a0_ (bD_ HB.out)
        have p222 : 0 ≤ (x8_1 : Int) := od_ (by assumption)
        have q222 : x8_1 < (l0.length : Int) := od_ (by assumption)
        obtain ⟨ad222, e222, hx222_0, hx222_1⟩ := at_T36 HR0.out x8_1 p222 q222
        have hw222_1 := hx222_1
        have hw222_0 := hx222_0
        cases e222
        replace hx222_0 := (HB.out.cell (bl_ w _ hx222_0)).trans hx222_0
        replace hx222_1 := (HB.out.cell (bl_ w _ hx222_1)).trans hx222_1
        replace p222 := eq_true p222
        replace q222 := eq_true q222
        refine start_ (n := 14) (S := fun w' => w'.cell? (ad222.add ((x8_1).toNat * 2)) = some (.string ((rd_T36 l0 x8_1).f0)) ∧ w'.cell? ⟨(ad222.add ((x8_1).toNat * 2)).block, (ad222.add ((x8_1).toNat * 2)).off + 1, none⟩ = some (.string ((rd_T36 l0 x8_1).f1))) (ds := []) #[false, false, false, false, false, false, false, false, false, false, false, false, false, false] (by kernel_rfl) rfl rfl ⟨((HB.out.cell (bl_ w _ hw222_0)).trans hw222_0), ((HB.out.cell (bl_ w _ hw222_1)).trans hw222_1)⟩ (fun hHeld => ?_); refine with_tabW orielref17_Apply.tab8 orielref17_Apply.bits8 (fun HT_ HW_ => ?_)
        generalize wr.drew = w31 at HO_7 BK211 BK215 HB hx222_0 hx222_1 hHeld ⊢
        refine pure_ (i := 0) (N := some 28) #[true, false, false, false, false, false, false, false, false, false, false, false, false, false] rfl rfl (any_of HT_.out (by kernel_rfl)) (fun _ _ _ h => h) (Or.inl ⟨by rfl, fun w' => by go_simp; with_reducible rfl⟩) (by simp only [ps_]; rfl) ?_
        refine pure_ (i := 1) (N := some 29) #[true, true, false, false, false, false, false, false, false, false, false, false, false, false] rfl rfl (any_of HT_.out (by kernel_rfl)) (fun _ _ _ h => h) (Or.inl ⟨by rfl, fun w' => by go_simp; with_reducible rfl⟩) (by simp only [ps_]; rfl) ?_
        refine pure_ (i := 2) (N := some 30) #[true, true, true, false, false, false, false, false, false, false, false, false, false, false] rfl rfl (any_of HT_.out (by kernel_rfl)) (fun _ _ _ h => h) (Or.inl ⟨by rfl, fun w' => by go_simp; with_reducible rfl⟩) (by simp only [ps_]; rfl) ?_
        refine pure_ (i := 3) (N := some 31) #[true, true, true, true, false, false, false, false, false, false, false, false, false, false] rfl rfl (any_of HT_.out (by kernel_rfl)) (fun _ _ _ h => h) (Or.inl ⟨by rfl, fun w' => by go_simp; with_reducible rfl⟩) (by simp only [ps_]; rfl) ?_
        refine pure_ (i := 5) (N := some 33) #[true, true, true, true, false, true, false, false, false, false, false, false, false, false] rfl rfl (any_of HT_.out (by kernel_rfl)) (fun _ _ _ h => h) (Or.inl ⟨by rfl, fun w' => by go_simp; with_reducible rfl⟩) (by simp only [ps_]; rfl) ?_
        refine pure_ (i := 6) (N := some 34) #[true, true, true, true, false, true, true, false, false, false, false, false, false, false] rfl rfl (any_of HT_.out (by kernel_rfl)) (fun _ _ _ h => h) (Or.inl ⟨by rfl, fun w' => by go_simp; with_reducible rfl⟩) (by simp only [ps_]; rfl) ?_
        refine take_ (i := 4) (N := some 32) (v := ?_) (a' := ?_) #[true, true, true, true, true, true, true, false, false, false, false, false, false, false] rfl rfl (take_ofW HT_.out HW_.out (by kernel_rfl)) (fun _ _ _ h => h) (Or.inl ⟨by rfl, ?_⟩) hHeld ?_ ?_
        rotate_left
        ·rintro w' ⟨s0, s1⟩
         go_simp
         with_reducible rfl
        rotate_left
        ·simp only [ps_]
         rfl
        refine one_ (i := 7) (N := some 35) #[true, true, true, true, true, true, true, true, false, false, false, false, false, false] rfl rfl (one_of HT_.out (by kernel_rfl)) (by decide) (fun K hK => ?_)
        refine goes_ Try.func26 (by kernel_rfl) rfl #[.int .i64 x8_1, .slice A1 l1.length c1] (by rfl) rfl rfl (by (try simp only [List.map_toArray, List.map_cons, List.map_nil]); first | done | rfl | (simp only [List.length_drop, List.length_take]; rfl)) ?_
        with_reducible refine (orielref17_Of.calls k1 x8_1 _ _ l1 t223 _ ?side1 ?side2 A27.out).mono ?_
        (case side1 => repeat (first | exact (Kd.C_below HR1.out HB.out) | (with_reducible refine Kd.C_alloc ?_ _) | (with_reducible refine Kd.C_drewN ?_ _) | (with_reducible refine Kd.C_drew ?_)))
        (case side2 => exact HC1.out)
        rintro e w32 ⟨v224, rfl, ho0, hb⟩
        refine ⟨_, rfl, ?_⟩
        replace HO_7 := a0_ (Kd.R_below (by exact HO_7.out) hb)
        have HO225 := a0_ (Kd.R_lower ho0 (bZ_ (by exact HB.out)))
        replace BK211 := a0_ (kB_ (g := gb211) (o := .cells #[.int .i64 0, .int .i64 0, .int .i64 0] 30 (0, 0)) (by exact BK211.out) hb)
        replace BK215 := a0_ (kB_ (g := gb215) (o := .cells #[.int .i64 t212, .int .i64 t213, .int .i64 t214] 30 (0, 0)) (by exact BK215.out) hb)
        replace HB := a0_ (bT_ (by exact HB.out) hb)
        obtain ⟨Ao33, co33, eo33⟩ := Kd.R_slice HO225.out
        (first | subst eo33 | (injection eo33 with f1_ f2_ f3_; have f4_ := f1_.symm; have f5_ := f3_.symm; clear f1_ f2_ f3_; subst f4_; subst f5_))
        refine hK.out _ _ ⟨((HB.out.cell (bl_ w _ hw222_0)).trans hw222_0), ((HB.out.cell (bl_ w _ hw222_1)).trans hw222_1)⟩ (fun hHeld => ?_)
        clear hK K
        refine norm_ (a' := ?_) ?_ ?_
        rotate_left
        ·show Act.put _ (some 35) _ = _
         simp only [ps_]
         rfl
        refine one_ (i := 8) (N := some 36) #[true, true, true, true, true, true, true, true, true, false, false, false, false, false] rfl rfl (one_of HT_.out (by kernel_rfl)) (by decide) (fun K hK => ?_)
        refine goes_ Try.func25 (by kernel_rfl) rfl #[.string ((rd_T36 l0 x8_1).f1), .slice Ao33 t223.length co33] (by rfl) rfl rfl (by (try simp only [List.map_toArray, List.map_cons, List.map_nil]); first | done | rfl | (simp only [List.length_drop, List.length_take]; rfl)) ?_
        with_reducible refine (orielref02_Apply.calls k1 ((rd_T36 l0 x8_1).f1) _ _ t223 t226 t227 _ ?side1 ?side2 A28.out).mono ?_
        (case side1 => repeat (first | exact (Kd.R_reads' HO225.out).2.2 | (with_reducible refine Kd.C_alloc ?_ _) | (with_reducible refine Kd.C_drewN ?_ _) | (with_reducible refine Kd.C_drew ?_)))
        (case side2 => exact (Kd.R_reads' HO225.out).2.1)
        rintro e w' ⟨rfl, ⟨nd, rfl⟩⟩
        refine ⟨_, rfl, ?_⟩
        refine hK.out _ _ ⟨((HB.out.cell (bl_ w _ hw222_0)).trans hw222_0), ((HB.out.cell (bl_ w _ hw222_1)).trans hw222_1)⟩ (fun hHeld => ?_)
        clear hK K
        refine norm_ (a' := ?_) ?_ ?_
        rotate_left
        ·show Act.put _ (some 36) _ = _
         simp only [ps_]
         rfl
        refine pure_ (i := 9) (N := some 27) #[true, true, true, true, true, true, true, true, true, true, false, false, false, false] rfl rfl (any_of HT_.out (by kernel_rfl)) (fun _ _ _ h => h) (Or.inl ⟨by rfl, fun w' => by go_simp; with_reducible rfl⟩) (by simp only [ps_]; rfl) ?_
        refine pure_ (i := 10) (N := some 37) #[true, true, true, true, true, true, true, true, true, true, true, false, false, false] rfl rfl (any_of HT_.out (by kernel_rfl)) (fun _ _ _ h => h) (Or.inl ⟨by rfl, fun w' => by go_simp; with_reducible rfl⟩) (by simp only [ps_]; rfl) ?_
        refine pure_ (i := 11) (N := some 38) #[true, true, true, true, true, true, true, true, true, true, true, true, false, false] rfl rfl (any_of HT_.out (by kernel_rfl)) (fun _ _ _ h => h) (Or.inl ⟨by rfl, fun w' => by go_simp; with_reducible rfl⟩) (by simp only [ps_]; rfl) ?_
        refine pure_ (i := 12) (N := some 9) #[true, true, true, true, true, true, true, true, true, true, true, true, true, false] rfl rfl (any_of HT_.out (by kernel_rfl)) (fun _ _ _ h => h) (Or.inl ⟨by rfl, fun w' => by go_simp; with_reducible rfl⟩) (by simp only [ps_]; rfl) ?_
        refine pure_ (i := 13) (N := some 10) #[true, true, true, true, true, true, true, true, true, true, true, true, true, true] rfl rfl (any_of HT_.out (by kernel_rfl)) (fun _ _ _ h => h) (Or.inl ⟨by rfl, fun w' => by go_simp; with_reducible rfl⟩) (by simp only [ps_]; rfl) ?_
        refine done_ (done_of HT_.out (by kernel_rfl)) ?_
        (try (generalize hq_ : World.drewN w32 _ = w32; have n0_ := a0_ (Kd.R_at hq_ HO_7.out); have n1_ := a0_ (blk_at hq_ BK211.out); have n2_ := a0_ (blk_at hq_ BK215.out); have n3_ := a0_ (below_at hq_ HB.out); have n4_ := a0_ (Kd.R_at hq_ HO225.out); clear hq_ HO_7 BK211 BK215 HB HO225; have HO_7 := n0_; have BK211 := n1_; have BK215 := n2_; have HB := n3_; have HO225 := n4_; clear n0_ n1_ n2_ n3_ n4_))
        have p29 : 0 ≤ (x8_1 : Int) := od_ (by assumption)
        have q29 : (x8_1 : Int) < ((x7_1.length : Int) : Int) := od_ (by assumption)
        obtain ⟨go29, co29, eo29, gb29, gl29, cl29, HG29⟩ := Kd.R_form HO_7.out (by omega)
        (first | cases eo29 | (injection eo29 with ea_ en_ ec_; (first | subst ea_ | (injection ea_ with ea_; subst ea_)); subst ec_; clear en_))
        have GB29 := a0_ gb29
        have GG29 := a0_ HG29
        clear gb29 gl29 HG29
        obtain ⟨ce29, hcl29, hM29, hcc29, hfr29⟩ := Kd.R_elem HO_7.out z36 (x8_1 : Int) p29 q29
        obtain rfl := k36_openM hM29
        have hx29_0 : w32.cell? ⟨go29, (x8_1 : Int).toNat * 2, none⟩ = some (.string ((rd_T36 x7_1 x8_1).f0)) := hcc29 0 _ rfl
        have hx29_1 : w32.cell? ⟨go29, (x8_1 : Int).toNat * 2 + 1, none⟩ = some (.string ((rd_T36 x7_1 x8_1).f1)) := hcc29 1 _ rfl
        have hf29_0 : w32.frozen? ⟨go29, (x8_1 : Int).toNat * 2, none⟩ = false := hfr29 0
        have hf29_1 : w32.frozen? ⟨go29, (x8_1 : Int).toNat * 2 + 1, none⟩ = false := hfr29 1
        clear hcl29 hcc29 hfr29 hM29
        replace p29 := eq_true p29
        replace q29 := eq_true q29
        have HX34 := a0_ (show Kd.R k36 36 w32 w.heap.size (fun _ => True) (.slice (some ⟨go29, 0, none⟩) x7_1.length co30) x7_1 from (by exact HO_7.out))
        obtain ⟨ce34, hcl34, hM34, hcc34, hfr34⟩ := Kd.R_elem HX34.out z36 (x8_1 : Int) (od_ (by assumption)) (by have h_ : (x8_1 : Int) < ((x7_1.length : Int) : Int) := od_ (by assumption); first | exact h_ | (have e_ := (Kd.R_reads' HO_7.out).1; omega) | simpa using h_)
        obtain rfl := k36_openM hM34
        have HP34 := Kd.R_seg HX34.out (x8_1 : Int) (od_ (by assumption)) (by have h_ : (x8_1 : Int) < ((x7_1.length : Int) : Int) := od_ (by assumption); first | exact h_ | (have e_ := (Kd.R_reads' HO_7.out).1; omega) | simpa using h_) (seg := [.string t226]) (j := 1) hcl34 hcc34 (show 2 ≤ 2 from by decide) (x' := (⟨(rd_T36 x7_1 x8_1).f0, t226⟩ : S36)) (k36_mkM _ _ _ (⟨(rd_T36 x7_1 x8_1).f0, t226⟩ : S36) ) (fun _ hk => hk)
        have hx34_1 := hcc34 1 _ rfl
        (try simp only [show (k36).sz = 2 from rfl, Nat.mul_one, Nat.add_zero] at hx34_1)
        have hf34_1 := hfr34 1
        (try simp only [show (k36).sz = 2 from rfl, Nat.mul_one, Nat.add_zero] at hf34_1)
        clear hcl34 hcc34 hfr34 hM34
        try go_wp2_with (first | ((with_reducible refine gate_store (t := 9) (p := 43) rfl ?_); refine store_event (t := 9) (p := 43) (v := ?vo_w35) (w1 := (w32.setCell ⟨go29, (x8_1 : Int).toNat * 2 + 1, none⟩ (.string t226))) ?hg ?ho ?hn ?hr ?_; (case ho => rfl); (case hg => rfl); (case hn => rfl); (case hr => first | (go_simp; done) | (go_simp; rfl)); intro w35 hw; have hg : w32.grownBy w35 (some go29) := (by rw [hw]; exact HP34.2); have hp_ : Kd.R k36 36 w35 w.heap.size (fun _ => True) (.slice (some ⟨go29, 0, none⟩) x7_1.length co30) y228 := (by rw [hw, Ny228.out]; exact HP34.1); clear HP34; replace BK211 := a0_ (blk_grown (g := gb211) (o := .cells #[.int .i64 0, .int .i64 0, .int .i64 0] 30 (0, 0)) (by (with_reducible repeat (first | refine kN_ ?_ _ | refine kD_ ?_ | refine kA_ ?_ _)); exact BK211.out) hg (Kd.R_ne HO_7.out BK211.out (by decide))); replace BK215 := a0_ (blk_grown (g := gb215) (o := .cells #[.int .i64 t212, .int .i64 t213, .int .i64 t214] 30 (0, 0)) (by (with_reducible repeat (first | refine kN_ ?_ _ | refine kD_ ?_ | refine kA_ ?_ _)); exact BK215.out) hg (Kd.R_ne HO_7.out BK215.out (by decide))); replace HO225 := a0_ (Kd.R_over' (v := (.slice (some ⟨go29, 0, none⟩) x7_1.length co30)) (by (with_reducible repeat (first | apply Kd.R_alloc | apply Kd.R_drewN | apply Kd.R_drew)); exact HO225.out) (Kd.R_typed HO_7.out) (by decide) hg); replace HO_7 := a0_ (hp_); replace HB := a0_ ((by rw [hw]; exact bS_ (HB.out) GB29.out : Below w.heap.size w w35)); clear hg hw hp_))
        go_roundg k1
        case measure => have := HK1.out; omega
        case rel => exact ⟨(y228), (wrap64 (x8_1 + 1)), (by first | rfl | (simp; done) | (simp [*]; done)), H', ⟨by have := HK1.out; omega⟩, ⟨by exact HO_7.out⟩, ⟨by exact BK211.out⟩, ⟨by exact BK215.out⟩, ⟨by exact HB.out⟩⟩
       ·rw [if_neg c26] at H
        exact absurd H (by simp)
      ·rw [if_neg c25] at H
       exact absurd H (by simp)
     ·rw [if_neg c24] at H
      have c24b0 := decide_eq_false c24
      clear c24
      simp only [Option.some.injEq, Prod.mk.injEq] at H
      obtain ⟨rfl, rfl, rfl, rfl⟩ := H
      obtain ⟨Ao36, co36, eo36⟩ := Kd.R_slice HO_7.out
      subst eo36
      have hnb37 := NB211_215.out
      have hnc37 := NB215_211.out
      have hcz38_0 : wr.cell? ⟨gb211, 0, none⟩ = some (.int .i64 0) := (blk_cell BK211.out 0).trans rfl
      have hcz38_1 : wr.cell? ⟨gb211, 1, none⟩ = some (.int .i64 0) := (blk_cell BK211.out 1).trans rfl
      have hcz38_2 : wr.cell? ⟨gb211, 2, none⟩ = some (.int .i64 0) := (blk_cell BK211.out 2).trans rfl
      have hfz38_0 := kF_ BK211.out 0
      have hfz38_1 := kF_ BK211.out 1
      have hfz38_2 := kF_ BK211.out 2
      go_wp2
      refine bodyPost_ret (results_tc rfl _ _ gb211 30 #[.int .i64 0, .int .i64 0, .int .i64 0] (0, 0) _ rfl (by refine blk_put (cs := #[.int .i64 0, .int .i64 0, .int .i64 0]) ?_ 2 _ rfl; refine blk_put (cs := #[.int .i64 0, .int .i64 0, .int .i64 0]) ?_ 1 _ rfl; refine blk_put (cs := #[.int .i64 0, .int .i64 0, .int .i64 0]) ?_ 0 _ rfl; exact BK211.out) Try.underlying30 rfl (by kernel_rfl)) rfl ?_
      exact ⟨_, by first | rfl | (simp [errW_none, errW_some] <;> rfl) | (simp [*, errW_none, errW_some] <;> rfl), by (with_reducible repeat (first | apply Kd.R_alloc | apply Kd.R_drewN | apply Kd.R_drew)); exact Kd.R_mono (Kd.R_far (p := ⟨gb211, 2, none⟩) (Kd.R_far (p := ⟨gb211, 1, none⟩) (Kd.R_far (p := ⟨gb211, 0, none⟩) (Kd.R_types HO_7.out BK211.out (by decide)) (fun _ hk => hk.2) (.int .i64 0)) (fun _ hk => hk.2) (.int .i64 0)) (fun _ hk => hk.2) (.int .i64 0)) (fun _ hk => trivial), by repeat (first | (with_reducible first | exact HB.out | apply bA_ | apply bN_ | apply bD_ | refine bS_ ?_ GE211.out | refine bS_ ?_ GE215.out) | exact HB.out)⟩
  ·rw [if_neg c15] at H
   exact absurd H (by simp)
end Go.Proofs.Ytclcnglamlegiaa.PMD
