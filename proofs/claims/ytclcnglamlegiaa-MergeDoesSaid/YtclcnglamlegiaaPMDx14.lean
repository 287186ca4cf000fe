-- Written by ownprint.py, a program of this session (out of the kit's print, with contracts of the session's own).
import Derived.Test.YtclcnglamlegiaaWMore
import Derived.Test.YtclcnglamlegiaaTrial
import Derived.Test.YtclcnglamlegiaaPMDx0
import Derived.Test.YtclcnglamlegiaaPMDx7
import Derived.Test.YtclcnglamlegiaaPMDx10
import Derived.Test.YtclcnglamlegiaaPMDx13
namespace Go.Proofs.Ytclcnglamlegiaa.PMD
open Go.RowKit Go.Proofs.YtclcnglamlegiaaW.PrintWords Go.Proofs.YtclcnglamlegiaaW.PrintLast Go.Proofs.YtclcnglamlegiaaW.PrintMore Go.Proofs.Ytclcnglamlegiaa
attribute [local go_sem] max2_int min2_int max_two min_two max_three min_three max_four min_four   -- for this text's walks alone
set_option linter.unusedVariables false
set_option linter.unusedSimpArgs false
attribute [local go_sem high] eqA30
/-! ### merge_Net: function 10 -/
def merge_Net.l0 : Nat → List (S36) → List (S34) → List (S36) → Int → Int → Option ((List (S34)) × Int × Int × Int × Int)
 | 0, _, _, _, _, _ => none
 | k + 1, x7, x10, x27, x28, x29 => if x29 < x28 then (if 0 ≤ x29 then (if x29 < (x27.length : Int) then (if x29 < (x7.length : Int) then ((merge_tight.f k ((rd_T36 x27 x29).f1) ((rd_T36 x7 x29).f1)).bind fun bt138 => (if bt138.2.2.2 = true then ((edit_Check.f k (((rd_T36 x27 x29).f1).size : Int) (([(⟨bt138.1, bt138.2.1, bt138.2.2.1⟩ : S58)] : List (S58)))).bind fun t146 => (if t146 = 0 then (if x10.length < 3518437208883 then (merge_Net.l0 k x7 (x10 ++ [(⟨x29, bt138.1, bt138.2.1, bt138.2.2.1⟩ : S34)]) x27 x28 (wrap64 (x29 + 1))) else (none)) else (merge_Net.l0 k x7 x10 x27 x28 (wrap64 (x29 + 1))))) else (merge_Net.l0 k x7 x10 x27 x28 (wrap64 (x29 + 1))))) else (none)) else (none)) else (none)) else (some (x10, 0, 0, 0, 0))
def merge_Net.f (k : Nat) (l0 : List (S36)) (l1 : List (List (S34))) : Option ((List (S34)) × Int × Int × Int × Int) := (merge_each.f k l0 l1).bind fun bt127 => (if (!(bt127.2.2.1 == 0) || (!(bt127.2.2.2.1 == 0) || (!(bt127.2.2.2.2 == 0)))) = true then (some (([] : List (S34)), bt127.2.1, bt127.2.2.1, bt127.2.2.2.1, bt127.2.2.2.2)) else (merge_Net.l0 k bt127.1 ([] : List (S34)) l0 (l0.length : Int) 0))
def merge_Net.T8 : Bool × List (List Nat × List Nat) := (true, [([], []), ([0], [0]), ([], []), ([], []), ([2, 3], [2, 3]), ([4], [4]), ([5], [5]), ([1, 6], [1, 6]), ([7], [7]), ([8], [8]), ([8], [8]), ([], []), ([11, 9, 7, 0, 1, 2, 3, 4, 5, 6, 7, 8, 9, 11], [9, 11]), ([10, 12, 0, 1, 2, 3, 4, 5, 6, 7, 8, 9, 10, 11, 12], [10])])
def merge_Net.B8 : List Nat := [0, 1, 0, 0, 12, 28, 60, 127, 255, 511, 511, 0, 3071, 8191]
theorem merge_Net.tab8 : rtab .any (opsOf Try.f10 8) = merge_Net.T8 := by kernel_rfl
theorem merge_Net.bits8 : waitsOk merge_Net.T8.2 merge_Net.B8 = true := by kernel_rfl
set_option maxHeartbeats 8000000 in
set_option maxRecDepth 100000 in
theorem merge_Net.calls (k : Nat) (A0 : Option Addr) (c0 : Nat) (l0 : List (S36)) (A1 : Option Addr) (c1 : Nat) (l1 : List (List (S34))) (r1 : List (S34)) (r2 : Int) (r3 : Int) (r4 : Int) (r5 : Int) (w : World) (hr0 : Kd.C k36 w A0 l0.length l0) (hc0 : l0.length ≤ c0) (hr1 : Kd.C (Kd.slice 34 k34) w A1 l1.length l1) (hc1 : l1.length ≤ c1) (h : merge_Net.f k l0 l1 = some (r1, r2, r3, r4, r5)) :
  Calls Try.prog 10 #[.slice A0 l0.length c0, .slice A1 l1.length c1] w fun e w' => ∃ v0_ : Value, e = .returned (.tuple #[v0_, .int .i64 r2, .agg #[.int .i64 r3, .int .i64 r4, .int .i64 r5]]) ∧ Kd.R k34 34 w' w.heap.size (fun _ => True) v0_ r1 ∧ Below w.heap.size w w' := by
 have hu30 := Try.underlying30
 have hu36 := Try.underlying36
 have hu58 := Try.underlying58
 have hu34 := Try.underlying34
 have HR0 := a0_ hr0
 have HC0 := a0_ hc0
 clear hr0 hc0
 have HR1 := a0_ hr1
 have HC1 := a0_ hc1
 clear hr1 hc1
 have HB := a0_ (Below.refl w.heap.size w)
 have H : ((merge_each.f k l0 l1).bind fun bt127 => (if (!(bt127.2.2.1 == 0) || (!(bt127.2.2.2.1 == 0) || (!(bt127.2.2.2.2 == 0)))) = true then (some (([] : List (S34)), bt127.2.1, bt127.2.2.1, bt127.2.2.2.1, bt127.2.2.2.2)) else (merge_Net.l0 k bt127.1 ([] : List (S34)) l0 (l0.length : Int) 0))) = some (r1, r2, r3, r4, r5) := h
 clear h
 replace H := ob_ H
 obtain ⟨⟨t127, t130, t131, t132, t133⟩, A30, H⟩ := H
 dsimp only at H
 have A3 := a0_ A30
 clear A30
 by_cases c4 : (!(t131 == 0) || (!(t132 == 0) || (!(t133 == 0)))) = true
 ·rw [if_pos c4] at H
  have c4b0 : (!(t131 == 0) || (!(t132 == 0) || (!(t133 == 0)))) = true := c4
  clear c4
  simp only [Option.some.injEq, Prod.mk.injEq] at H
  obtain ⟨rfl, rfl, rfl, rfl, rfl⟩ := H
  go_enter Try.func10, Try.ntmps10
  try go_wp2_with (first | ((with_reducible refine gate_dst (N := 6) rfl ?_); (try (refine gate_guard (by rfl) ?_; dsimp only)); refine box_event ?hg (N := 6) ?hd (cs := #[.int .i64 0, .int .i64 0, .int .i64 0]) (t := 30) ?hr ?_; (case hd => rfl); (case hg => rfl); (case hr => first | (go_simp; done) | (go_simp; rfl)); intro gb126 hg w5 hbox hb; have BK126 := a0_ (hbox); have GW126 := a0_ ((by rw [hg]; exact (bZ_ (by exact HB.out)) : w.heap.size ≤ gb126)); have GE126 := a0_ ((by rw [hg]; exact (bZ_ (by exact HB.out)) : w.heap.size ≤ gb126)); replace HB := a0_ (bT_ (by exact HB.out) hb); clear hb hbox hg) | ((with_reducible refine gate_callee (f := 20) rfl ?_); refine goesL_ (some 18) rfl rfl Try.func20 (by kernel_rfl) rfl #[.slice A0 l0.length c0, .slice A1 l1.length c1, .func (.func 21) #[] #[]] rfl (by (try simp only [List.map_toArray, List.map_cons, List.map_nil]); first | done | rfl | (simp only [List.length_drop, List.length_take]; rfl)) ?_; (with_reducible refine (merge_each.calls k (fun k_ => k_ < w.heap.size) _ _ l0 _ _ l1 t127 t130 t131 t132 t133 _ ?side1 ?side2 ?side3 A3.out).mono ?_); (case side1 => exact Kd.V_mk HC0.out (Kd.F_below (Kd.C_F k36_heap HR0.out) (by exact HB.out))); (case side2 => repeat (first | exact (Kd.C_below HR1.out HB.out) | (with_reducible refine Kd.C_alloc ?_ _) | (with_reducible refine Kd.C_drewN ?_ _) | (with_reducible refine Kd.C_drew ?_))); (case side3 => exact HC1.out); rintro e w6 ⟨v128, rfl, ho0, hb⟩; refine ⟨_, rfl, ?_⟩; have HO129 := a0_ (Kd.V_lower (Kd.V_mono (ok' := fun k_ => k_ ≠ gb126) ho0 (fun k_ hk_ => Or.elim hk_ (fun hs_ => fun e_ => Nat.not_le.2 hs_ (by rw [e_]; exact GW126.out)) (fun hn_ => (Kd.freshB (g := gb126) (o := .cells #[.int .i64 0, .int .i64 0, .int .i64 0] 30 (0, 0)) (by exact BK126.out) k_ hn_)))) (bZ_ (by exact HB.out))); replace BK126 := a0_ (kB_ (g := gb126) (o := .cells #[.int .i64 0, .int .i64 0, .int .i64 0] 30 (0, 0)) (by exact BK126.out) hb); replace HB := a0_ (bT_ (by exact HB.out) hb); (try clear hb); (try clear hb2); (try clear hk); (try clear hi); (try clear ho0)) | ((with_reducible refine gate_dst (N := 9) rfl ?_); (try (refine gate_guard (by rfl) ?_; dsimp only)); refine box_event ?hg (N := 9) ?hd (cs := #[.int .i64 0, .int .i64 0, .int .i64 0]) (t := 30) ?hr ?_; (case hd => rfl); (case hg => rfl); (case hr => first | (go_simp; done) | (go_simp; rfl)); intro gb134 hg w7 hbox hb; replace HO129 := a0_ (Kd.V_below (Kd.V_elderB (by exact HO129.out) gb134 (Nat.le_of_eq hg.symm)) hb); have BK134 := a0_ (hbox); have GW134 := a0_ ((by rw [hg]; exact (bZ_ (by exact HB.out)) : w.heap.size ≤ gb134)); have GE134 := a0_ ((by rw [hg]; exact (bZ_ (by exact HB.out)) : w.heap.size ≤ gb134)); replace HB := a0_ (bT_ (by exact HB.out) hb); have NB126_134 := a0_ ((by rw [hg]; exact Nat.ne_of_lt (blk_lt (g := gb126) (o := .cells #[.int .i64 0, .int .i64 0, .int .i64 0] 30 (0, 0)) (by exact BK126.out)) : gb126 ≠ gb134)); have NB134_126 := a0_ ((by rw [hg]; exact Nat.ne_of_gt (blk_lt (g := gb126) (o := .cells #[.int .i64 0, .int .i64 0, .int .i64 0] 30 (0, 0)) (by exact BK126.out)) : gb134 ≠ gb126)); replace BK126 := a0_ (kB_ (g := gb126) (o := .cells #[.int .i64 0, .int .i64 0, .int .i64 0] 30 (0, 0)) (by exact BK126.out) hb); clear hb hbox hg; have hnb8 := NB134_126.out; have hnc8 := NB126_134.out; have hcz9_0 : w7.cell? ⟨gb134, 0, none⟩ = some (.int .i64 0) := (blk_cell BK134.out 0).trans rfl; have hcz9_1 : w7.cell? ⟨gb134, 1, none⟩ = some (.int .i64 0) := (blk_cell BK134.out 1).trans rfl; have hcz9_2 : w7.cell? ⟨gb134, 2, none⟩ = some (.int .i64 0) := (blk_cell BK134.out 2).trans rfl; have hfz9_0 := kF_ BK134.out 0; have hfz9_1 := kF_ BK134.out 1; have hfz9_2 := kF_ BK134.out 2))
  replace HO129 : Aside0 (Kd.V k36 36 (((w7.setCell ⟨gb134, 0, none⟩ (.int .i64 t131)).setCell ⟨gb134, 1, none⟩ (.int .i64 t132)).setCell ⟨gb134, 2, none⟩ (.int .i64 t133)) w.heap.size (fun k_ => k_ ≠ gb126 ∧ k_ ≠ gb134) v128 t127) := ⟨by exact Kd.V_mono (Kd.V_far (p := ⟨gb134, 2, none⟩) (Kd.V_far (p := ⟨gb134, 1, none⟩) (Kd.V_far (p := ⟨gb134, 0, none⟩) (Kd.V_mono HO129.out (fun k_ hk => (⟨hk, hk.2⟩ : _ ∧ k_ ≠ gb134))) (fun _ hk => hk.2) (.int .i64 t131)) (fun _ hk => hk.2) (.int .i64 t132)) (fun _ hk => hk.2) (.int .i64 t133)) (fun _ hk => ⟨hk.1.1, hk.1.2⟩)⟩
  replace BK126 : Aside0 ((((w7.setCell ⟨gb134, 0, none⟩ (.int .i64 t131)).setCell ⟨gb134, 1, none⟩ (.int .i64 t132)).setCell ⟨gb134, 2, none⟩ (.int .i64 t133)).heap[gb126]? = some (.cells #[.int .i64 0, .int .i64 0, .int .i64 0] 30 (0, 0))) := ⟨by refine blk_far ?_ NB126_134.out _; refine blk_far ?_ NB126_134.out _; refine blk_far ?_ NB126_134.out _; exact BK126.out⟩
  replace BK134 : Aside0 ((((w7.setCell ⟨gb134, 0, none⟩ (.int .i64 t131)).setCell ⟨gb134, 1, none⟩ (.int .i64 t132)).setCell ⟨gb134, 2, none⟩ (.int .i64 t133)).heap[gb134]? = some (.cells #[.int .i64 t131, .int .i64 t132, .int .i64 t133] 30 (0, 0))) := ⟨by refine blk_put (cs := #[.int .i64 t131, .int .i64 t132, .int .i64 0]) ?_ 2 _ rfl; refine blk_put (cs := #[.int .i64 t131, .int .i64 0, .int .i64 0]) ?_ 1 _ rfl; refine blk_put (cs := #[.int .i64 0, .int .i64 0, .int .i64 0]) ?_ 0 _ rfl; exact BK134.out⟩
  replace HB : Aside0 (Below w.heap.size w (((w7.setCell ⟨gb134, 0, none⟩ (.int .i64 t131)).setCell ⟨gb134, 1, none⟩ (.int .i64 t132)).setCell ⟨gb134, 2, none⟩ (.int .i64 t133))) := ⟨by repeat (first | (with_reducible first | exact HB.out | apply bA_ | apply bN_ | apply bD_ | refine bS_ ?_ GE126.out | refine bS_ ?_ GE134.out) | exact HB.out)⟩
  generalize (((w7.setCell ⟨gb134, 0, none⟩ (.int .i64 t131)).setCell ⟨gb134, 1, none⟩ (.int .i64 t132)).setCell ⟨gb134, 2, none⟩ (.int .i64 t133)) = w10 at HO129 BK126 BK134 HB ⊢
  replace HO129 := a0_ (Kd.V_drew HO129.out)
  replace BK126 := a0_ (kD_ BK126.out)
  replace BK134 := a0_ (kD_ BK134.out)
  replace HB := a0_ (bD_ HB.out)
  refine start_ (n := 5) (S := fun w' => w'.cell? ⟨gb134, 0, none⟩ = some (.int .i64 t131) ∧ w'.cell? ⟨gb134, 1, none⟩ = some (.int .i64 t132) ∧ w'.cell? ⟨gb134, 2, none⟩ = some (.int .i64 t133)) (ds := []) #[false, false, false, false, false] (by kernel_rfl) rfl rfl ⟨(blk_cell BK134.out 0).trans rfl, (blk_cell BK134.out 1).trans rfl, (blk_cell BK134.out 2).trans rfl⟩ (fun hHeld => ?_)
  generalize w10.drew = w11 at HO129 BK126 BK134 HB hHeld ⊢
  refine pure_ (i := 0) (N := some 25) #[true, false, false, false, false] rfl rfl (by kernel_rfl) (fun _ _ _ h => h) (Or.inl ⟨by rfl, fun w' => by go_simp; with_reducible rfl⟩) (by simp only [ps_]; rfl) ?_
  refine pure_ (i := 2) (N := some 4) #[true, false, true, false, false] rfl rfl (by kernel_rfl) (fun _ _ _ h => h) (Or.inl ⟨by rfl, fun w' => by go_simp; with_reducible rfl⟩) (by simp only [ps_]; rfl) ?_
  refine pure_ (i := 3) (N := some 5) #[true, false, true, true, false] rfl rfl (by kernel_rfl) (fun _ _ _ h => h) (Or.inl ⟨by rfl, fun w' => by go_simp; with_reducible rfl⟩) (by simp only [ps_]; rfl) ?_
  refine take_ (i := 1) (N := some 26) (v := ?_) (a' := ?_) #[true, true, true, true, false] rfl rfl (by kernel_rfl) (fun _ _ _ h => h) (Or.inl ⟨by rfl, ?_⟩) hHeld ?_ ?_
  rotate_left
  ·rintro w' ⟨s0, s1, s2⟩
   go_simp
   with_reducible rfl
  rotate_left
  ·simp only [ps_]
   rfl
  refine one_ (i := 4) (N := none) #[true, true, true, true, true] rfl rfl (by kernel_rfl) (by decide) (fun K hK => ?_)
  have hs12 : w11.cell? ⟨gb126, 0, none⟩ = some (.int .i64 0) := (blk_cell BK126.out 0).trans rfl
  have hfs12 := kF_ BK126.out 0
  have hns12_1 := NB134_126.out
  have hms12_1 := NB126_134.out
  have hs13 : w11.cell? ⟨gb126, 1, none⟩ = some (.int .i64 0) := (blk_cell BK126.out 1).trans rfl
  have hfs13 := kF_ BK126.out 1
  have hns13_1 := NB134_126.out
  have hms13_1 := NB126_134.out
  have hs14 : w11.cell? ⟨gb126, 2, none⟩ = some (.int .i64 0) := (blk_cell BK126.out 2).trans rfl
  have hfs14 := kF_ BK126.out 2
  have hns14_1 := NB134_126.out
  have hms14_1 := NB126_134.out
  refine skip_ (w1 := ?_) (by rfl) rfl ?_ ?_
  rotate_left
  ·go_simp
   rfl
  refine hK.out _ _ ⟨((cell_far (p := ⟨gb126, _, none⟩) NB134_126.out _).trans (((cell_far (p := ⟨gb126, _, none⟩) NB134_126.out _).trans (((cell_far (p := ⟨gb126, _, none⟩) NB134_126.out _).trans (hHeld.1)))))), ((cell_far (p := ⟨gb126, _, none⟩) NB134_126.out _).trans (((cell_far (p := ⟨gb126, _, none⟩) NB134_126.out _).trans (((cell_far (p := ⟨gb126, _, none⟩) NB134_126.out _).trans (hHeld.2.1)))))), ((cell_far (p := ⟨gb126, _, none⟩) NB134_126.out _).trans (((cell_far (p := ⟨gb126, _, none⟩) NB134_126.out _).trans (((cell_far (p := ⟨gb126, _, none⟩) NB134_126.out _).trans (hHeld.2.2))))))⟩ (fun hHeld => ?_)
  clear hK K
  refine done_ (by kernel_rfl) ?_
  try go_wp2
  refine bodyPost_ret (results_list (rs := [.tmp 4, .tmp 5, .cell 6 30]) rfl (by simp) (.tmp (.tmp (.cell gb126 30 #[.int .i64 t131, .int .i64 t132, .int .i64 t133] (0, 0) _ rfl (by refine blk_put (cs := #[.int .i64 t131, .int .i64 t132, .int .i64 0]) ?_ 2 _ rfl; refine blk_put (cs := #[.int .i64 t131, .int .i64 0, .int .i64 0]) ?_ 1 _ rfl; refine blk_put (cs := #[.int .i64 0, .int .i64 0, .int .i64 0]) ?_ 0 _ rfl; exact BK126.out) Try.underlying30 rfl (by kernel_rfl) .nil)))) rfl ?_
  exact ⟨_, by first | rfl | (simp [errW_none, errW_some] <;> rfl) | (simp [*, errW_none, errW_some] <;> rfl), by first | exact Kd.R_nil _ _ _ _ _ | exact Kd.N_nil _ _ _ _ _ | exact Kd.V_nil _ _ _ _ _ | exact Kd.Q_nil _ _ _ _ _ | exact Kd.S_nil _ _ _ _ _, by repeat (first | (with_reducible first | exact HB.out | apply bA_ | apply bN_ | apply bD_ | refine bS_ ?_ GE126.out | refine bS_ ?_ GE134.out) | exact HB.out)⟩
 ·rw [if_neg c4] at H
  have c4b0 : (!(t131 == 0) || (!(t132 == 0) || (!(t133 == 0)))) = false := by simpa using c4
  clear c4
  have H' := a0_ H
  clear H
  go_enter Try.func10, Try.ntmps10
  go_wp2_with (first | ((with_reducible refine gate_dst (N := 6) rfl ?_); (try (refine gate_guard (by rfl) ?_; dsimp only)); refine box_event ?hg (N := 6) ?hd (cs := #[.int .i64 0, .int .i64 0, .int .i64 0]) (t := 30) ?hr ?_; (case hd => rfl); (case hg => rfl); (case hr => first | (go_simp; done) | (go_simp; rfl)); intro gb126 hg w15 hbox hb; have BK126 := a0_ (hbox); have GW126 := a0_ ((by rw [hg]; exact (bZ_ (by exact HB.out)) : w.heap.size ≤ gb126)); have GE126 := a0_ ((by rw [hg]; exact (bZ_ (by exact HB.out)) : w.heap.size ≤ gb126)); replace HB := a0_ (bT_ (by exact HB.out) hb); clear hb hbox hg) | ((with_reducible refine gate_callee (f := 20) rfl ?_); refine goesL_ (some 18) rfl rfl Try.func20 (by kernel_rfl) rfl #[.slice A0 l0.length c0, .slice A1 l1.length c1, .func (.func 21) #[] #[]] rfl (by (try simp only [List.map_toArray, List.map_cons, List.map_nil]); first | done | rfl | (simp only [List.length_drop, List.length_take]; rfl)) ?_; (with_reducible refine (merge_each.calls k (fun k_ => k_ < w.heap.size) _ _ l0 _ _ l1 t127 t130 t131 t132 t133 _ ?side1 ?side2 ?side3 A3.out).mono ?_); (case side1 => exact Kd.V_mk HC0.out (Kd.F_below (Kd.C_F k36_heap HR0.out) (by exact HB.out))); (case side2 => repeat (first | exact (Kd.C_below HR1.out HB.out) | (with_reducible refine Kd.C_alloc ?_ _) | (with_reducible refine Kd.C_drewN ?_ _) | (with_reducible refine Kd.C_drew ?_))); (case side3 => exact HC1.out); rintro e w16 ⟨v128, rfl, ho0, hb⟩; refine ⟨_, rfl, ?_⟩; have HO129 := a0_ (Kd.V_lower (Kd.V_mono (ok' := fun k_ => k_ ≠ gb126) ho0 (fun k_ hk_ => Or.elim hk_ (fun hs_ => fun e_ => Nat.not_le.2 hs_ (by rw [e_]; exact GW126.out)) (fun hn_ => (Kd.freshB (g := gb126) (o := .cells #[.int .i64 0, .int .i64 0, .int .i64 0] 30 (0, 0)) (by exact BK126.out) k_ hn_)))) (bZ_ (by exact HB.out))); replace BK126 := a0_ (kB_ (g := gb126) (o := .cells #[.int .i64 0, .int .i64 0, .int .i64 0] 30 (0, 0)) (by exact BK126.out) hb); replace HB := a0_ (bT_ (by exact HB.out) hb); (try clear hb); (try clear hb2); (try clear hk); (try clear hi); (try clear ho0)) | ((with_reducible refine gate_dst (N := 9) rfl ?_); (try (refine gate_guard (by rfl) ?_; dsimp only)); refine box_event ?hg (N := 9) ?hd (cs := #[.int .i64 0, .int .i64 0, .int .i64 0]) (t := 30) ?hr ?_; (case hd => rfl); (case hg => rfl); (case hr => first | (go_simp; done) | (go_simp; rfl)); intro gb134 hg w17 hbox hb; replace HO129 := a0_ (Kd.V_below (Kd.V_elderB (by exact HO129.out) gb134 (Nat.le_of_eq hg.symm)) hb); have BK134 := a0_ (hbox); have GW134 := a0_ ((by rw [hg]; exact (bZ_ (by exact HB.out)) : w.heap.size ≤ gb134)); have GE134 := a0_ ((by rw [hg]; exact (bZ_ (by exact HB.out)) : w.heap.size ≤ gb134)); replace HB := a0_ (bT_ (by exact HB.out) hb); have NB126_134 := a0_ ((by rw [hg]; exact Nat.ne_of_lt (blk_lt (g := gb126) (o := .cells #[.int .i64 0, .int .i64 0, .int .i64 0] 30 (0, 0)) (by exact BK126.out)) : gb126 ≠ gb134)); have NB134_126 := a0_ ((by rw [hg]; exact Nat.ne_of_gt (blk_lt (g := gb126) (o := .cells #[.int .i64 0, .int .i64 0, .int .i64 0] 30 (0, 0)) (by exact BK126.out)) : gb134 ≠ gb126)); replace BK126 := a0_ (kB_ (g := gb126) (o := .cells #[.int .i64 0, .int .i64 0, .int .i64 0] 30 (0, 0)) (by exact BK126.out) hb); clear hb hbox hg; have hnb18 := NB134_126.out; have hnc18 := NB126_134.out; have hcz19_0 : w17.cell? ⟨gb134, 0, none⟩ = some (.int .i64 0) := (blk_cell BK134.out 0).trans rfl; have hcz19_1 : w17.cell? ⟨gb134, 1, none⟩ = some (.int .i64 0) := (blk_cell BK134.out 1).trans rfl; have hcz19_2 : w17.cell? ⟨gb134, 2, none⟩ = some (.int .i64 0) := (blk_cell BK134.out 2).trans rfl; have hfz19_0 := kF_ BK134.out 0; have hfz19_1 := kF_ BK134.out 1; have hfz19_2 := kF_ BK134.out 2))
  go_loopg [10, 29] k (fun kq v10 v29 w' => ∃ (x10_1 : List (S34)) (x29_1 : Int), v29 = .int .i64 x29_1 ∧ Aside0 (merge_Net.l0 kq t127 x10_1 l0 (l0.length : Int) x29_1 = some (r1, r2, r3, r4, r5)) ∧ Aside0 (kq ≤ k) ∧ Aside0 (Kd.V k36 36 w' w.heap.size (fun k_ => some k_ ≠ (v10 : Value).ownBlock ∧ k_ ≠ gb126 ∧ k_ ≠ gb134) v128 t127) ∧ Aside0 (Kd.R k34 34 w' w.heap.size (fun _ => True) v10 x10_1) ∧ Aside0 (w'.heap[gb126]? = some (.cells #[.int .i64 0, .int .i64 0, .int .i64 0] 30 (0, 0))) ∧ Aside0 (w'.heap[gb134]? = some (.cells #[.int .i64 t131, .int .i64 t132, .int .i64 t133] 30 (0, 0))) ∧ Aside0 (Below w.heap.size w w'))
  case atStart => exact ⟨(([] : List (S34))), (0), (by first | rfl | (simp; done) | (simp [*]; done)), H', ⟨Nat.le_refl _⟩, ⟨by (with_reducible repeat (first | apply Kd.V_alloc | apply Kd.V_drewN | apply Kd.V_drew)); exact Kd.V_mono (Kd.V_far (p := ⟨gb134, 2, none⟩) (Kd.V_far (p := ⟨gb134, 1, none⟩) (Kd.V_far (p := ⟨gb134, 0, none⟩) (Kd.V_mono HO129.out (fun k_ hk => (⟨hk, hk.2⟩ : _ ∧ k_ ≠ gb134))) (fun _ hk => hk.2) (.int .i64 t131)) (fun _ hk => hk.2) (.int .i64 t132)) (fun _ hk => hk.2) (.int .i64 t133)) (fun _ hk => ⟨(by simp [Value.ownBlock]), ⟨hk.1.1, hk.1.2⟩⟩)⟩, ⟨by first | exact Kd.R_nil _ _ _ _ _ | exact Kd.N_nil _ _ _ _ _ | exact Kd.V_nil _ _ _ _ _ | exact Kd.Q_nil _ _ _ _ _ | exact Kd.S_nil _ _ _ _ _⟩, ⟨by refine blk_far ?_ NB126_134.out _; refine blk_far ?_ NB126_134.out _; refine blk_far ?_ NB126_134.out _; exact BK126.out⟩, ⟨by refine blk_put (cs := #[.int .i64 t131, .int .i64 t132, .int .i64 0]) ?_ 2 _ rfl; refine blk_put (cs := #[.int .i64 t131, .int .i64 0, .int .i64 0]) ?_ 1 _ rfl; refine blk_put (cs := #[.int .i64 0, .int .i64 0, .int .i64 0]) ?_ 0 _ rfl; exact BK134.out⟩, ⟨by repeat (first | (with_reducible first | exact HB.out | apply bA_ | apply bN_ | apply bD_ | refine bS_ ?_ GE126.out | refine bS_ ?_ GE134.out) | exact HB.out)⟩⟩
  case round =>
   clear H'
   obtain ⟨x10_1, x29_1, rfl, HA, HK1, HO_7, HO_10, BK126, BK134, HB⟩ := hrel
   cases gk with
   | zero => exact absurd HA.out (by simp [merge_Net.l0])
   | succ k1 =>
    have H := HA.out
    clear HA
    simp only [merge_Net.l0] at H
    by_cases c20 : x29_1 < (l0.length : Int)
    ·rw [if_pos c20] at H
     have c20b0 := decide_eq_true c20
     clear c20
     by_cases c21 : 0 ≤ x29_1
     ·rw [if_pos c21] at H
      have c21b0 := decide_eq_true c21
      clear c21
      by_cases c22 : x29_1 < (l0.length : Int)
      ·rw [if_pos c22] at H
       have c22b0 := decide_eq_true c22
       clear c22
       by_cases c23 : x29_1 < (t127.length : Int)
       ·rw [if_pos c23] at H
        have c23b0 := decide_eq_true c23
        clear c23
        replace H := ob_ H
        obtain ⟨⟨t138, t139, t140, t141⟩, A240, H⟩ := H
        dsimp only at H
        have A24 := a0_ A240
        clear A240
        by_cases c25 : t141 = true
        ·subst c25
         have H1 : ((edit_Check.f k1 (((rd_T36 l0 x29_1).f1).size : Int) (([(⟨t138, t139, t140⟩ : S58)] : List (S58)))).bind fun t146 => (if t146 = 0 then (if x10_1.length < 3518437208883 then (merge_Net.l0 k1 t127 (x10_1 ++ [(⟨x29_1, t138, t139, t140⟩ : S34)]) l0 (l0.length : Int) (wrap64 (x29_1 + 1))) else (none)) else (merge_Net.l0 k1 t127 x10_1 l0 (l0.length : Int) (wrap64 (x29_1 + 1))))) = some (r1, r2, r3, r4, r5) := by rw [if_pos rfl] at H; exact H
         clear H
         have H := H1
         clear H1
         obtain ⟨y143, hy143⟩ : ∃ y_ : List (S58), y_ = (([(⟨t138, t139, t140⟩ : S58)] : List (S58))) := ⟨_, rfl⟩
         replace H : ((edit_Check.f k1 (((rd_T36 l0 x29_1).f1).size : Int) y143).bind fun t146 => (if t146 = 0 then (if x10_1.length < 3518437208883 then (merge_Net.l0 k1 t127 (x10_1 ++ [(⟨x29_1, t138, t139, t140⟩ : S34)]) l0 (l0.length : Int) (wrap64 (x29_1 + 1))) else (none)) else (merge_Net.l0 k1 t127 x10_1 l0 (l0.length : Int) (wrap64 (x29_1 + 1))))) = some (r1, r2, r3, r4, r5) := by first | (rw [hy143]; with_reducible exact H) | (have H2_ := (Option.bind_some _ _).symm.trans H; rw [hy143]; with_reducible exact H2_) | (have H2_ := (Option.bind_some _ _).symm.trans H; with_reducible exact H2_) | with_reducible exact H | (rw [hy143]; exact H) | exact H
         have Ny143 := a0_ hy143
         clear hy143
         replace H := ob_ H
         obtain ⟨t146, A260, H⟩ := H
         replace H : (if t146 = 0 then (if x10_1.length < 3518437208883 then (merge_Net.l0 k1 t127 (x10_1 ++ [(⟨x29_1, t138, t139, t140⟩ : S34)]) l0 (l0.length : Int) (wrap64 (x29_1 + 1))) else (none)) else (merge_Net.l0 k1 t127 x10_1 l0 (l0.length : Int) (wrap64 (x29_1 + 1)))) = some (r1, r2, r3, r4, r5) := H
         have A26 := a0_ A260
         clear A260
         by_cases c27 : t146 = 0
         ·rw [if_pos c27] at H
          have c27b0 : (t146 == 0) = true := beq_iff_eq.mpr c27
          have c27b1 : (t146 != 0) = false := bne_eq_false_iff_eq.mpr c27
          clear c27
          by_cases c28 : x10_1.length < 3518437208883
          ·rw [if_pos c28] at H
           have LMc28 := a0_ c28
           clear c28
           obtain ⟨y147, hy147⟩ : ∃ y_ : List (S34), y_ = (x10_1 ++ [(⟨x29_1, t138, t139, t140⟩ : S34)]) := ⟨_, rfl⟩
           replace H : (merge_Net.l0 k1 t127 y147 l0 (l0.length : Int) (wrap64 (x29_1 + 1))) = some (r1, r2, r3, r4, r5) := by first | (rw [hy147]; with_reducible exact H) | (have H2_ := (Option.bind_some _ _).symm.trans H; rw [hy147]; with_reducible exact H2_) | (have H2_ := (Option.bind_some _ _).symm.trans H; with_reducible exact H2_) | with_reducible exact H | (rw [hy147]; exact H) | exact H
           have Ny147 := a0_ hy147
           clear hy147
           have H' := a0_ H
           clear H
           have p135 : 0 ≤ (x29_1 : Int) := od_ (by assumption)
           have q135 : x29_1 < (l0.length : Int) := od_ (by assumption)
           obtain ⟨ad135, e135, hx135_0, hx135_1⟩ := at_T36 HR0.out x29_1 p135 q135
           cases e135
           replace hx135_0 := (HB.out.cell (bl_ w _ hx135_0)).trans hx135_0
           replace hx135_1 := (HB.out.cell (bl_ w _ hx135_1)).trans hx135_1
           replace p135 := eq_true p135
           replace q135 := eq_true q135
           try go_wp2_with (first | ((with_reducible refine gate_dst (N := 12) rfl ?_); (try (refine gate_guard (by rfl) ?_; dsimp only)); refine box_event ?hg (N := 12) ?hd (cs := #[.string (⟨#[]⟩ : ByteArray), .string (⟨#[]⟩ : ByteArray)]) (t := 36) ?hr ?_; (case hd => rfl); (case hg => rfl); (case hr => first | (go_simp; done) | (go_simp; rfl)); intro gb136 hg w29 hbox hb; replace HO_7 := a0_ (Kd.V_below (Kd.V_elderB (by exact HO_7.out) gb136 (Nat.le_of_eq hg.symm)) hb); replace HO_10 := a0_ (Kd.R_below (by exact HO_10.out) hb); have BK136 := a0_ (hbox); have GW136 := a0_ ((by rw [hg]; exact (bZ_ (by exact HB.out)) : w.heap.size ≤ gb136)); have GE136 := a0_ ((by rw [hg]; exact (bZ_ (by exact HB.out)) : w.heap.size ≤ gb136)); replace HB := a0_ (bT_ (by exact HB.out) hb); have NB126_136 := a0_ ((by rw [hg]; exact Nat.ne_of_lt (blk_lt (g := gb126) (o := .cells #[.int .i64 0, .int .i64 0, .int .i64 0] 30 (0, 0)) (by exact BK126.out)) : gb126 ≠ gb136)); have NB136_126 := a0_ ((by rw [hg]; exact Nat.ne_of_gt (blk_lt (g := gb126) (o := .cells #[.int .i64 0, .int .i64 0, .int .i64 0] 30 (0, 0)) (by exact BK126.out)) : gb136 ≠ gb126)); replace BK126 := a0_ (kB_ (g := gb126) (o := .cells #[.int .i64 0, .int .i64 0, .int .i64 0] 30 (0, 0)) (by exact BK126.out) hb); have NB134_136 := a0_ ((by rw [hg]; exact Nat.ne_of_lt (blk_lt (g := gb134) (o := .cells #[.int .i64 t131, .int .i64 t132, .int .i64 t133] 30 (0, 0)) (by exact BK134.out)) : gb134 ≠ gb136)); have NB136_134 := a0_ ((by rw [hg]; exact Nat.ne_of_gt (blk_lt (g := gb134) (o := .cells #[.int .i64 t131, .int .i64 t132, .int .i64 t133] 30 (0, 0)) (by exact BK134.out)) : gb136 ≠ gb134)); replace BK134 := a0_ (kB_ (g := gb134) (o := .cells #[.int .i64 t131, .int .i64 t132, .int .i64 t133] 30 (0, 0)) (by exact BK134.out) hb); clear hb hbox hg; have hnb30 := NB136_126.out; have hnc30 := NB126_136.out; have hnb31 := NB136_134.out; have hnc31 := NB134_136.out; have hcz32_0 : w29.cell? ⟨gb136, 0, none⟩ = some (.string (⟨#[]⟩ : ByteArray)) := (blk_cell BK136.out 0).trans rfl; have hcz32_1 : w29.cell? ⟨gb136, 1, none⟩ = some (.string (⟨#[]⟩ : ByteArray)) := (blk_cell BK136.out 1).trans rfl; have hfz32_0 := kF_ BK136.out 0; have hfz32_1 := kF_ BK136.out 1))
           replace HO_7 : Aside0 (Kd.V k36 36 ((w29.setCell ⟨gb136, 0, none⟩ (.string ((rd_T36 l0 x29_1).f0))).setCell ⟨gb136, 1, none⟩ (.string ((rd_T36 l0 x29_1).f1))) w.heap.size (fun k_ => some k_ ≠ (u10 : Value).ownBlock ∧ k_ ≠ gb126 ∧ k_ ≠ gb134 ∧ k_ ≠ gb136) v128 t127) := ⟨by exact Kd.V_mono (Kd.V_far (p := ⟨gb136, 1, none⟩) (Kd.V_far (p := ⟨gb136, 0, none⟩) (Kd.V_mono HO_7.out (fun k_ hk => (⟨hk, hk.2⟩ : _ ∧ k_ ≠ gb136))) (fun _ hk => hk.2) (.string ((rd_T36 l0 x29_1).f0))) (fun _ hk => hk.2) (.string ((rd_T36 l0 x29_1).f1))) (fun _ hk => ⟨hk.1.1.1, ⟨hk.1.1.2.1, ⟨hk.1.1.2.2, hk.1.2⟩⟩⟩)⟩
           replace HO_10 : Aside0 (Kd.R k34 34 ((w29.setCell ⟨gb136, 0, none⟩ (.string ((rd_T36 l0 x29_1).f0))).setCell ⟨gb136, 1, none⟩ (.string ((rd_T36 l0 x29_1).f1))) w.heap.size (fun _ => True) u10 x10_1) := ⟨by exact Kd.R_mono (Kd.R_far (p := ⟨gb136, 1, none⟩) (Kd.R_far (p := ⟨gb136, 0, none⟩) (Kd.R_types HO_10.out BK136.out (by decide)) (fun _ hk => hk.2) (.string ((rd_T36 l0 x29_1).f0))) (fun _ hk => hk.2) (.string ((rd_T36 l0 x29_1).f1))) (fun _ hk => trivial)⟩
           replace BK126 : Aside0 (((w29.setCell ⟨gb136, 0, none⟩ (.string ((rd_T36 l0 x29_1).f0))).setCell ⟨gb136, 1, none⟩ (.string ((rd_T36 l0 x29_1).f1))).heap[gb126]? = some (.cells #[.int .i64 0, .int .i64 0, .int .i64 0] 30 (0, 0))) := ⟨by refine blk_far ?_ NB126_136.out _; refine blk_far ?_ NB126_136.out _; exact BK126.out⟩
           replace BK134 : Aside0 (((w29.setCell ⟨gb136, 0, none⟩ (.string ((rd_T36 l0 x29_1).f0))).setCell ⟨gb136, 1, none⟩ (.string ((rd_T36 l0 x29_1).f1))).heap[gb134]? = some (.cells #[.int .i64 t131, .int .i64 t132, .int .i64 t133] 30 (0, 0))) := ⟨by refine blk_far ?_ NB134_136.out _; refine blk_far ?_ NB134_136.out _; exact BK134.out⟩
           replace BK136 : Aside0 (((w29.setCell ⟨gb136, 0, none⟩ (.string ((rd_T36 l0 x29_1).f0))).setCell ⟨gb136, 1, none⟩ (.string ((rd_T36 l0 x29_1).f1))).heap[gb136]? = some (.cells #[.string ((rd_T36 l0 x29_1).f0), .string ((rd_T36 l0 x29_1).f1)] 36 (0, 0))) := ⟨by refine blk_put (cs := #[.string ((rd_T36 l0 x29_1).f0), .string (⟨#[]⟩ : ByteArray)]) ?_ 1 _ rfl; refine blk_put (cs := #[.string (⟨#[]⟩ : ByteArray), .string (⟨#[]⟩ : ByteArray)]) ?_ 0 _ rfl; exact BK136.out⟩
           replace HB : Aside0 (Below w.heap.size w ((w29.setCell ⟨gb136, 0, none⟩ (.string ((rd_T36 l0 x29_1).f0))).setCell ⟨gb136, 1, none⟩ (.string ((rd_T36 l0 x29_1).f1)))) := ⟨by repeat (first | (with_reducible first | exact HB.out | apply bA_ | apply bN_ | apply bD_ | refine bS_ ?_ GE126.out | refine bS_ ?_ GE134.out | refine bS_ ?_ GE136.out) | exact HB.out)⟩
           generalize ((w29.setCell ⟨gb136, 0, none⟩ (.string ((rd_T36 l0 x29_1).f0))).setCell ⟨gb136, 1, none⟩ (.string ((rd_T36 l0 x29_1).f1))) = w33 at HO_7 HO_10 BK126 BK134 BK136 HB ⊢
           replace HO_7 := a0_ (Kd.V_drew HO_7.out)
           replace HO_10 := a0_ (Kd.R_drew HO_10.out)
           replace BK126 := a0_ (kD_ BK126.out)
           replace BK134 := a0_ (kD_ BK134.out)
           replace BK136 := a0_ (kD_ BK136.out)
           replace HB := a0_ (bD_ HB.out)
           obtain ⟨Ao35, co35, eo35⟩ := Kd.V_slice HO_7.out
           (first | subst eo35 | (injection eo35 with f1_ f2_ f3_; have f4_ := f1_.symm; have f5_ := f3_.symm; clear f1_ f2_ f3_; subst f4_; subst f5_))
           have p137 : 0 ≤ (x29_1 : Int) := od_ (by assumption)
           have q137 : x29_1 < (t127.length : Int) := od_ (by assumption)
           obtain ⟨ad137, e137, hx137_0, hx137_1⟩ := at_T36 (Kd.V_reads' HO_7.out).2.2 x29_1 p137 q137
           cases e137
           replace p137 := eq_true p137
           replace q137 := eq_true q137
           refine start_ (n := 14) (S := fun w' => w'.cell? ⟨gb136, 0, none⟩ = some (.string ((rd_T36 l0 x29_1).f0)) ∧ w'.cell? ⟨gb136, 1, none⟩ = some (.string ((rd_T36 l0 x29_1).f1)) ∧ w'.cell? (ad137.add ((x29_1).toNat * 2)) = some (.string ((rd_T36 t127 x29_1).f0)) ∧ w'.cell? ⟨(ad137.add ((x29_1).toNat * 2)).block, (ad137.add ((x29_1).toNat * 2)).off + 1, none⟩ = some (.string ((rd_T36 t127 x29_1).f1))) (ds := []) #[false, false, false, false, false, false, false, false, false, false, false, false, false, false] (by kernel_rfl) rfl rfl ⟨(blk_cell BK136.out 0).trans rfl, (blk_cell BK136.out 1).trans rfl, hx137_0, hx137_1⟩ (fun hHeld => ?_); refine with_tabW merge_Net.tab8 merge_Net.bits8 (fun HT_ HW_ => ?_)
           generalize w33.drew = w34 at HO_7 HO_10 BK126 BK134 BK136 HB hx137_0 hx137_1 hHeld ⊢
           refine pure_ (i := 0) (N := some 35) #[true, false, false, false, false, false, false, false, false, false, false, false, false, false] rfl rfl (any_of HT_.out (by kernel_rfl)) (fun _ _ _ h => h) (Or.inl ⟨by rfl, fun w' => by go_simp; with_reducible rfl⟩) (by simp only [ps_]; rfl) ?_
           refine pure_ (i := 2) (N := some 37) #[true, false, true, false, false, false, false, false, false, false, false, false, false, false] rfl rfl (any_of HT_.out (by kernel_rfl)) (fun _ _ _ h => h) (Or.inl ⟨by rfl, fun w' => by go_simp; with_reducible rfl⟩) (by simp only [ps_]; rfl) ?_
           refine pure_ (i := 3) (N := some 38) #[true, false, true, true, false, false, false, false, false, false, false, false, false, false] rfl rfl (any_of HT_.out (by kernel_rfl)) (fun _ _ _ h => h) (Or.inl ⟨by rfl, fun w' => by go_simp; with_reducible rfl⟩) (by simp only [ps_]; rfl) ?_
           refine pure_ (i := 4) (N := some 39) #[true, false, true, true, true, false, false, false, false, false, false, false, false, false] rfl rfl (any_of HT_.out (by kernel_rfl)) (fun _ _ _ h => h) (Or.inl ⟨by rfl, fun w' => by go_simp; with_reducible rfl⟩) (by simp only [ps_]; rfl) ?_
           refine pure_ (i := 5) (N := some 40) #[true, false, true, true, true, true, false, false, false, false, false, false, false, false] rfl rfl (any_of HT_.out (by kernel_rfl)) (fun _ _ _ h => h) (Or.inl ⟨by rfl, fun w' => by go_simp; with_reducible rfl⟩) (by simp only [ps_]; rfl) ?_
           refine take_ (i := 1) (N := some 36) (v := ?_) (a' := ?_) #[true, true, true, true, true, true, false, false, false, false, false, false, false, false] rfl rfl (take_ofW HT_.out HW_.out (by kernel_rfl)) (fun _ _ _ h => h) (Or.inl ⟨by rfl, ?_⟩) hHeld ?_ ?_
           rotate_left
           ·rintro w' ⟨s0, s1, s2, s3⟩
            go_simp
            with_reducible rfl
           rotate_left
           ·simp only [ps_]
            rfl
           refine take_ (i := 6) (N := some 41) (v := ?_) (a' := ?_) #[true, true, true, true, true, true, true, false, false, false, false, false, false, false] rfl rfl (take_ofW HT_.out HW_.out (by kernel_rfl)) (fun _ _ _ h => h) (Or.inl ⟨by rfl, ?_⟩) hHeld ?_ ?_
           rotate_left
           ·rintro w' ⟨s0, s1, s2, s3⟩
            go_simp
            with_reducible rfl
           rotate_left
           ·simp only [ps_]
            rfl
           refine join_ (σ := Nat) 2 #[true, true, true, true, true, true, true, true, true, true, true, true, false, false] (fun s_ => [(42, .tuple #[.agg #[.int .i64 t138, .int .i64 t139, .string t140], .bool true]), (13, .pointer (some ⟨s_, 0, none⟩)), (34, .tuple #[.agg #[.int .i64 t138, .int .i64 t139, .string t140], .bool true]), (43, .agg #[.int .i64 t138, .int .i64 t139, .string t140]), (44, .bool true)]) (fun s_ w' => (w'.cell? ⟨gb136, 0, none⟩ = some (.string ((rd_T36 l0 x29_1).f0)) ∧ w'.cell? ⟨gb136, 1, none⟩ = some (.string ((rd_T36 l0 x29_1).f1)) ∧ w'.cell? (ad137.add ((x29_1).toNat * 2)) = some (.string ((rd_T36 t127 x29_1).f0)) ∧ w'.cell? ⟨(ad137.add ((x29_1).toNat * 2)).block, (ad137.add ((x29_1).toNat * 2)).off + 1, none⟩ = some (.string ((rd_T36 t127 x29_1).f1))) ∧ (Kd.R k34 34 w' w.heap.size (fun _ => True) u10 x10_1) ∧ (Kd.V k36 36 w' w.heap.size (fun k_ => some k_ ≠ (u10 : Value).ownBlock ∧ k_ ≠ gb126 ∧ k_ ≠ gb134 ∧ k_ ≠ gb136 ∧ k_ ≠ s_) (.slice (some ad137) t127.length co35) t127) ∧ (w'.heap[gb126]? = some (.cells #[.int .i64 0, .int .i64 0, .int .i64 0] 30 (0, 0))) ∧ (w'.heap[gb134]? = some (.cells #[.int .i64 t131, .int .i64 t132, .int .i64 t133] 30 (0, 0))) ∧ (w'.heap[gb136]? = some (.cells #[.string ((rd_T36 l0 x29_1).f0), .string ((rd_T36 l0 x29_1).f1)] 36 (0, 0))) ∧ (w'.heap[s_]? = some (.cells #[.int .i64 0, .int .i64 0, .string (⟨#[]⟩ : ByteArray)] 58 (0, 0))) ∧ (w.heap.size ≤ s_) ∧ (w.heap.size ≤ s_) ∧ (gb126 ≠ s_) ∧ (s_ ≠ gb126) ∧ (gb134 ≠ s_) ∧ (s_ ≠ gb134) ∧ (gb136 ≠ s_) ∧ (s_ ≠ gb136) ∧ (Below w.heap.size w w')) ?_ ?_
           rotate_left
           ·intro hCont
            refine two_ (i := 7) (j := 11) (Ni := some 42) (Nj := some 13) #[true, true, true, true, true, true, true, true, false, false, false, false, false, false] #[true, true, true, true, true, true, true, false, false, false, false, true, false, false] rfl rfl rfl rfl (two_of HT_.out (by kernel_rfl)) (by decide) (by decide) (fun K hK => ?_) (fun K hK => ?_)
            ·skip
             refine goes_ Try.func22 (by kernel_rfl) rfl #[.string ((rd_T36 l0 x29_1).f1), .string ((rd_T36 t127 x29_1).f1)] (by rfl) rfl rfl (by (try simp only [List.map_toArray, List.map_cons, List.map_nil]); first | done | rfl | (simp only [List.length_drop, List.length_take]; rfl)) ?_
             with_reducible refine (merge_tight.calls k1 ((rd_T36 l0 x29_1).f1) ((rd_T36 t127 x29_1).f1) t138 t139 t140 true _ A24.out).mono ?_
             rintro e w36 ⟨rfl, hb⟩
             have HS2_ := (hb.cell (bl_ _ _ (hHeld.2.2.1))).trans (hHeld.2.2.1)
             have HS3_ := (hb.cell (bl_ _ _ (hHeld.2.2.2))).trans (hHeld.2.2.2)
             refine ⟨_, rfl, ?_⟩
             replace HO_7 := a0_ (Kd.V_below (by exact HO_7.out) hb)
             replace HO_10 := a0_ (Kd.R_below (by exact HO_10.out) hb)
             replace BK126 := a0_ (kB_ (g := gb126) (o := .cells #[.int .i64 0, .int .i64 0, .int .i64 0] 30 (0, 0)) (by exact BK126.out) hb)
             replace BK134 := a0_ (kB_ (g := gb134) (o := .cells #[.int .i64 t131, .int .i64 t132, .int .i64 t133] 30 (0, 0)) (by exact BK134.out) hb)
             replace BK136 := a0_ (kB_ (g := gb136) (o := .cells #[.string ((rd_T36 l0 x29_1).f0), .string ((rd_T36 l0 x29_1).f1)] 36 (0, 0)) (by exact BK136.out) hb)
             replace HB := a0_ (bT_ (by exact HB.out) hb)
             refine hK.out _ _ ⟨(blk_cell BK136.out 0).trans rfl, (blk_cell BK136.out 1).trans rfl, HS2_, HS3_⟩ (fun hHeld => ?_)
             clear hK K
             refine norm_ (a' := ?_) ?_ ?_
             rotate_left
             ·show Act.put _ (some 42) _ = _
              simp only [ps_]
              rfl
             refine pure_ (i := 8) (N := some 34) #[true, true, true, true, true, true, true, true, true, false, false, false, false, false] rfl rfl (any_of HT_.out (by kernel_rfl)) (fun _ _ _ h => h) (Or.inl ⟨by rfl, fun w' => by go_simp; with_reducible rfl⟩) (by simp only [ps_]; rfl) ?_
             refine pure_ (i := 9) (N := some 43) #[true, true, true, true, true, true, true, true, true, true, false, false, false, false] rfl rfl (any_of HT_.out (by kernel_rfl)) (fun _ _ _ h => h) (Or.inl ⟨by rfl, fun w' => by go_simp; with_reducible rfl⟩) (by simp only [ps_]; rfl) ?_
             refine pure_ (i := 10) (N := some 44) #[true, true, true, true, true, true, true, true, true, true, true, false, false, false] rfl rfl (any_of HT_.out (by kernel_rfl)) (fun _ _ _ h => h) (Or.inl ⟨by rfl, fun w' => by go_simp; with_reducible rfl⟩) (by simp only [ps_]; rfl) ?_
             refine one_ (i := 11) (N := some 13) #[true, true, true, true, true, true, true, true, true, true, true, true, false, false] rfl rfl (one_of HT_.out (by kernel_rfl)) (by decide) (fun K hK => ?_)
             refine box_step ?hg (N := 13) ?hd (cs := #[.int .i64 0, .int .i64 0, .string (⟨#[]⟩ : ByteArray)]) (t := 58) ?hr ?_; (case hd => rfl); (case hg => rfl); (case hr => first | (go_simp; done) | (go_simp; rfl))
             intro gb142 hg w37 hbox hb
             have HS2_ := (hb.cell (bl_ _ _ (hHeld.2.2.1))).trans (hHeld.2.2.1)
             have HS3_ := (hb.cell (bl_ _ _ (hHeld.2.2.2))).trans (hHeld.2.2.2)
             replace HO_7 := a0_ (Kd.V_below (Kd.V_elderB (by exact HO_7.out) gb142 (Nat.le_of_eq hg.symm)) hb)
             replace HO_10 := a0_ (Kd.R_below (by exact HO_10.out) hb)
             have BK142 := a0_ (hbox)
             have GW142 := a0_ ((by rw [hg]; exact (bZ_ (by exact HB.out)) : w.heap.size ≤ gb142))
             have GE142 := a0_ ((by rw [hg]; exact (bZ_ (by exact HB.out)) : w.heap.size ≤ gb142))
             replace HB := a0_ (bT_ (by exact HB.out) hb)
             have NB126_142 := a0_ ((by rw [hg]; exact Nat.ne_of_lt (blk_lt (g := gb126) (o := .cells #[.int .i64 0, .int .i64 0, .int .i64 0] 30 (0, 0)) (by exact BK126.out)) : gb126 ≠ gb142))
             have NB142_126 := a0_ ((by rw [hg]; exact Nat.ne_of_gt (blk_lt (g := gb126) (o := .cells #[.int .i64 0, .int .i64 0, .int .i64 0] 30 (0, 0)) (by exact BK126.out)) : gb142 ≠ gb126))
             replace BK126 := a0_ (kB_ (g := gb126) (o := .cells #[.int .i64 0, .int .i64 0, .int .i64 0] 30 (0, 0)) (by exact BK126.out) hb)
             have NB134_142 := a0_ ((by rw [hg]; exact Nat.ne_of_lt (blk_lt (g := gb134) (o := .cells #[.int .i64 t131, .int .i64 t132, .int .i64 t133] 30 (0, 0)) (by exact BK134.out)) : gb134 ≠ gb142))
             have NB142_134 := a0_ ((by rw [hg]; exact Nat.ne_of_gt (blk_lt (g := gb134) (o := .cells #[.int .i64 t131, .int .i64 t132, .int .i64 t133] 30 (0, 0)) (by exact BK134.out)) : gb142 ≠ gb134))
             replace BK134 := a0_ (kB_ (g := gb134) (o := .cells #[.int .i64 t131, .int .i64 t132, .int .i64 t133] 30 (0, 0)) (by exact BK134.out) hb)
             have NB136_142 := a0_ ((by rw [hg]; exact Nat.ne_of_lt (blk_lt (g := gb136) (o := .cells #[.string ((rd_T36 l0 x29_1).f0), .string ((rd_T36 l0 x29_1).f1)] 36 (0, 0)) (by exact BK136.out)) : gb136 ≠ gb142))
             have NB142_136 := a0_ ((by rw [hg]; exact Nat.ne_of_gt (blk_lt (g := gb136) (o := .cells #[.string ((rd_T36 l0 x29_1).f0), .string ((rd_T36 l0 x29_1).f1)] 36 (0, 0)) (by exact BK136.out)) : gb142 ≠ gb136))
             replace BK136 := a0_ (kB_ (g := gb136) (o := .cells #[.string ((rd_T36 l0 x29_1).f0), .string ((rd_T36 l0 x29_1).f1)] 36 (0, 0)) (by exact BK136.out) hb)
             clear hb hbox hg
             refine hK.out _ _ ⟨(blk_cell BK136.out 0).trans rfl, (blk_cell BK136.out 1).trans rfl, HS2_, HS3_⟩ (fun hHeld => ?_)
             clear hK K
             refine norm_ (a' := ?_) ?_ ?_
             rotate_left
             ·show Act.put _ (some 13) _ = _
              simp only [ps_]
              rfl
             exact norm_ (by simp only [putAll, Act.put, List.setIfInBounds_toArray, List.set_cons_zero, List.set_cons_succ]) (hCont (gb142) _ ⟨hHeld, (by exact HO_10.out), (by exact Kd.V_mono HO_7.out (fun _ hk => ⟨hk.1.1, ⟨hk.1.2.1, ⟨hk.1.2.2.1, ⟨hk.1.2.2.2, hk.2⟩⟩⟩⟩)), (by exact BK126.out), (by exact BK134.out), (by exact BK136.out), (by exact BK142.out), GW142.out, GE142.out, NB126_142.out, NB142_126.out, NB134_142.out, NB142_134.out, NB136_142.out, NB142_136.out, (by exact HB.out)⟩)
            ·skip
             refine box_step ?hg (N := 13) ?hd (cs := #[.int .i64 0, .int .i64 0, .string (⟨#[]⟩ : ByteArray)]) (t := 58) ?hr ?_; (case hd => rfl); (case hg => rfl); (case hr => first | (go_simp; done) | (go_simp; rfl))
             intro gb142 hg w36 hbox hb
             have HS2_ := (hb.cell (bl_ _ _ (hHeld.2.2.1))).trans (hHeld.2.2.1)
             have HS3_ := (hb.cell (bl_ _ _ (hHeld.2.2.2))).trans (hHeld.2.2.2)
             replace HO_7 := a0_ (Kd.V_below (Kd.V_elderB (by exact HO_7.out) gb142 (Nat.le_of_eq hg.symm)) hb)
             replace HO_10 := a0_ (Kd.R_below (by exact HO_10.out) hb)
             have BK142 := a0_ (hbox)
             have GW142 := a0_ ((by rw [hg]; exact (bZ_ (by exact HB.out)) : w.heap.size ≤ gb142))
             have GE142 := a0_ ((by rw [hg]; exact (bZ_ (by exact HB.out)) : w.heap.size ≤ gb142))
             replace HB := a0_ (bT_ (by exact HB.out) hb)
             have NB126_142 := a0_ ((by rw [hg]; exact Nat.ne_of_lt (blk_lt (g := gb126) (o := .cells #[.int .i64 0, .int .i64 0, .int .i64 0] 30 (0, 0)) (by exact BK126.out)) : gb126 ≠ gb142))
             have NB142_126 := a0_ ((by rw [hg]; exact Nat.ne_of_gt (blk_lt (g := gb126) (o := .cells #[.int .i64 0, .int .i64 0, .int .i64 0] 30 (0, 0)) (by exact BK126.out)) : gb142 ≠ gb126))
             replace BK126 := a0_ (kB_ (g := gb126) (o := .cells #[.int .i64 0, .int .i64 0, .int .i64 0] 30 (0, 0)) (by exact BK126.out) hb)
             have NB134_142 := a0_ ((by rw [hg]; exact Nat.ne_of_lt (blk_lt (g := gb134) (o := .cells #[.int .i64 t131, .int .i64 t132, .int .i64 t133] 30 (0, 0)) (by exact BK134.out)) : gb134 ≠ gb142))
             have NB142_134 := a0_ ((by rw [hg]; exact Nat.ne_of_gt (blk_lt (g := gb134) (o := .cells #[.int .i64 t131, .int .i64 t132, .int .i64 t133] 30 (0, 0)) (by exact BK134.out)) : gb142 ≠ gb134))
             replace BK134 := a0_ (kB_ (g := gb134) (o := .cells #[.int .i64 t131, .int .i64 t132, .int .i64 t133] 30 (0, 0)) (by exact BK134.out) hb)
             have NB136_142 := a0_ ((by rw [hg]; exact Nat.ne_of_lt (blk_lt (g := gb136) (o := .cells #[.string ((rd_T36 l0 x29_1).f0), .string ((rd_T36 l0 x29_1).f1)] 36 (0, 0)) (by exact BK136.out)) : gb136 ≠ gb142))
             have NB142_136 := a0_ ((by rw [hg]; exact Nat.ne_of_gt (blk_lt (g := gb136) (o := .cells #[.string ((rd_T36 l0 x29_1).f0), .string ((rd_T36 l0 x29_1).f1)] 36 (0, 0)) (by exact BK136.out)) : gb142 ≠ gb136))
             replace BK136 := a0_ (kB_ (g := gb136) (o := .cells #[.string ((rd_T36 l0 x29_1).f0), .string ((rd_T36 l0 x29_1).f1)] 36 (0, 0)) (by exact BK136.out) hb)
             clear hb hbox hg
             refine hK.out _ _ ⟨(blk_cell BK136.out 0).trans rfl, (blk_cell BK136.out 1).trans rfl, HS2_, HS3_⟩ (fun hHeld => ?_)
             clear hK K
             refine norm_ (a' := ?_) ?_ ?_
             rotate_left
             ·show Act.put _ (some 13) _ = _
              simp only [ps_]
              rfl
             refine one_ (i := 7) (N := some 42) #[true, true, true, true, true, true, true, true, false, false, false, true, false, false] rfl rfl (one_of HT_.out (by kernel_rfl)) (by decide) (fun K hK => ?_)
             refine goes_ Try.func22 (by kernel_rfl) rfl #[.string ((rd_T36 l0 x29_1).f1), .string ((rd_T36 t127 x29_1).f1)] (by rfl) rfl rfl (by (try simp only [List.map_toArray, List.map_cons, List.map_nil]); first | done | rfl | (simp only [List.length_drop, List.length_take]; rfl)) ?_
             with_reducible refine (merge_tight.calls k1 ((rd_T36 l0 x29_1).f1) ((rd_T36 t127 x29_1).f1) t138 t139 t140 true _ A24.out).mono ?_
             rintro e w37 ⟨rfl, hb⟩
             have HS2_ := (hb.cell (bl_ _ _ (hHeld.2.2.1))).trans (hHeld.2.2.1)
             have HS3_ := (hb.cell (bl_ _ _ (hHeld.2.2.2))).trans (hHeld.2.2.2)
             refine ⟨_, rfl, ?_⟩
             replace HO_7 := a0_ (Kd.V_below (by exact HO_7.out) hb)
             replace HO_10 := a0_ (Kd.R_below (by exact HO_10.out) hb)
             replace BK126 := a0_ (kB_ (g := gb126) (o := .cells #[.int .i64 0, .int .i64 0, .int .i64 0] 30 (0, 0)) (by exact BK126.out) hb)
             replace BK134 := a0_ (kB_ (g := gb134) (o := .cells #[.int .i64 t131, .int .i64 t132, .int .i64 t133] 30 (0, 0)) (by exact BK134.out) hb)
             replace BK136 := a0_ (kB_ (g := gb136) (o := .cells #[.string ((rd_T36 l0 x29_1).f0), .string ((rd_T36 l0 x29_1).f1)] 36 (0, 0)) (by exact BK136.out) hb)
             replace BK142 := a0_ (kB_ (g := gb142) (o := .cells #[.int .i64 0, .int .i64 0, .string (⟨#[]⟩ : ByteArray)] 58 (0, 0)) (by exact BK142.out) hb)
             replace HB := a0_ (bT_ (by exact HB.out) hb)
             refine hK.out _ _ ⟨(blk_cell BK136.out 0).trans rfl, (blk_cell BK136.out 1).trans rfl, HS2_, HS3_⟩ (fun hHeld => ?_)
             clear hK K
             refine norm_ (a' := ?_) ?_ ?_
             rotate_left
             ·show Act.put _ (some 42) _ = _
              simp only [ps_]
              rfl
             refine pure_ (i := 8) (N := some 34) #[true, true, true, true, true, true, true, true, true, false, false, true, false, false] rfl rfl (any_of HT_.out (by kernel_rfl)) (fun _ _ _ h => h) (Or.inl ⟨by rfl, fun w' => by go_simp; with_reducible rfl⟩) (by simp only [ps_]; rfl) ?_
             refine pure_ (i := 9) (N := some 43) #[true, true, true, true, true, true, true, true, true, true, false, true, false, false] rfl rfl (any_of HT_.out (by kernel_rfl)) (fun _ _ _ h => h) (Or.inl ⟨by rfl, fun w' => by go_simp; with_reducible rfl⟩) (by simp only [ps_]; rfl) ?_
             refine pure_ (i := 10) (N := some 44) #[true, true, true, true, true, true, true, true, true, true, true, true, false, false] rfl rfl (any_of HT_.out (by kernel_rfl)) (fun _ _ _ h => h) (Or.inl ⟨by rfl, fun w' => by go_simp; with_reducible rfl⟩) (by simp only [ps_]; rfl) ?_
             exact norm_ (by simp only [putAll, Act.put, List.setIfInBounds_toArray, List.set_cons_zero, List.set_cons_succ]) (hCont (gb142) _ ⟨hHeld, (by exact HO_10.out), (by exact Kd.V_mono HO_7.out (fun _ hk => ⟨hk.1.1, ⟨hk.1.2.1, ⟨hk.1.2.2.1, ⟨hk.1.2.2.2, hk.2⟩⟩⟩⟩)), (by exact BK126.out), (by exact BK134.out), (by exact BK136.out), (by exact BK142.out), GW142.out, GE142.out, NB126_142.out, NB142_126.out, NB134_142.out, NB142_134.out, NB136_142.out, NB142_136.out, (by exact HB.out)⟩)
           rintro gb142 w38 ⟨hS_, h0_, h1_, h2_, h3_, h4_, h5_, h6_, h7_, h8_, h9_, h10_, h11_, h12_, h13_, h14_⟩
           have n0_ : Aside0 (Kd.R k34 34 w38 w.heap.size (fun _ => True) u10 x10_1) := ⟨h0_⟩
           have n1_ : Aside0 (Kd.V k36 36 w38 w.heap.size (fun k_ => some k_ ≠ (u10 : Value).ownBlock ∧ k_ ≠ gb126 ∧ k_ ≠ gb134 ∧ k_ ≠ gb136 ∧ k_ ≠ gb142) (.slice (some ad137) t127.length co35) t127) := ⟨h1_⟩
           have n2_ : Aside0 (w38.heap[gb126]? = some (.cells #[.int .i64 0, .int .i64 0, .int .i64 0] 30 (0, 0))) := ⟨h2_⟩
           have n3_ : Aside0 (w38.heap[gb134]? = some (.cells #[.int .i64 t131, .int .i64 t132, .int .i64 t133] 30 (0, 0))) := ⟨h3_⟩
           have n4_ : Aside0 (w38.heap[gb136]? = some (.cells #[.string ((rd_T36 l0 x29_1).f0), .string ((rd_T36 l0 x29_1).f1)] 36 (0, 0))) := ⟨h4_⟩
           have n5_ : Aside0 (w38.heap[gb142]? = some (.cells #[.int .i64 0, .int .i64 0, .string (⟨#[]⟩ : ByteArray)] 58 (0, 0))) := ⟨h5_⟩
           have n6_ : Aside0 (w.heap.size ≤ gb142) := ⟨h6_⟩
           have n7_ : Aside0 (w.heap.size ≤ gb142) := ⟨h7_⟩
           have n8_ : Aside0 (gb126 ≠ gb142) := ⟨h8_⟩
           have n9_ : Aside0 (gb142 ≠ gb126) := ⟨h9_⟩
           have n10_ : Aside0 (gb134 ≠ gb142) := ⟨h10_⟩
           have n11_ : Aside0 (gb142 ≠ gb134) := ⟨h11_⟩
           have n12_ : Aside0 (gb136 ≠ gb142) := ⟨h12_⟩
           have n13_ : Aside0 (gb142 ≠ gb136) := ⟨h13_⟩
           have n14_ : Aside0 (Below w.heap.size w w38) := ⟨h14_⟩
           clear HO_7
           clear HO_10
           clear BK126
           clear BK134
           clear BK136
           clear HB
           clear h0_ h1_ h2_ h3_ h4_ h5_ h6_ h7_ h8_ h9_ h10_ h11_ h12_ h13_ h14_
           have HO_10 := n0_
           have HO_7 := n1_
           have BK126 := n2_
           have BK134 := n3_
           have BK136 := n4_
           have BK142 := n5_
           have GW142 := n6_
           have GE142 := n7_
           have NB126_142 := n8_
           have NB142_126 := n9_
           have NB134_142 := n10_
           have NB142_134 := n11_
           have NB136_142 := n12_
           have NB142_136 := n13_
           have HB := n14_
           clear n0_ n1_ n2_ n3_ n4_ n5_ n6_ n7_ n8_ n9_ n10_ n11_ n12_ n13_ n14_
           have hHeld : w38.cell? ⟨gb136, 0, none⟩ = some (.string ((rd_T36 l0 x29_1).f0)) ∧ w38.cell? ⟨gb136, 1, none⟩ = some (.string ((rd_T36 l0 x29_1).f1)) ∧ w38.cell? (ad137.add ((x29_1).toNat * 2)) = some (.string ((rd_T36 t127 x29_1).f0)) ∧ w38.cell? ⟨(ad137.add ((x29_1).toNat * 2)).block, (ad137.add ((x29_1).toNat * 2)).off + 1, none⟩ = some (.string ((rd_T36 t127 x29_1).f1)) := hS_
           refine norm_ (a' := ?_) ?_ ?_
           rotate_left
           ·simp only [putAll, Act.put, List.setIfInBounds_toArray, List.set_cons_zero, List.set_cons_succ]
            rfl
           refine one_ (i := 12) (N := none) #[true, true, true, true, true, true, true, true, true, true, true, true, true, false] rfl rfl (one_of HT_.out (by kernel_rfl)) (by decide) (fun K hK => ?_)
           have hs39 : w38.cell? ⟨gb142, 0, none⟩ = some (.int .i64 0) := (blk_cell BK142.out 0).trans rfl
           have hfs39 := kF_ BK142.out 0
           have hns39_0 := NB126_142.out
           have hns39_1 := NB134_142.out
           have hns39_2 := NB136_142.out
           have hms39_0 := NB142_126.out
           have hms39_1 := NB142_134.out
           have hms39_2 := NB142_136.out
           have hs40 : w38.cell? ⟨gb142, 1, none⟩ = some (.int .i64 0) := (blk_cell BK142.out 1).trans rfl
           have hfs40 := kF_ BK142.out 1
           have hns40_0 := NB126_142.out
           have hns40_1 := NB134_142.out
           have hns40_2 := NB136_142.out
           have hms40_0 := NB142_126.out
           have hms40_1 := NB142_134.out
           have hms40_2 := NB142_136.out
           have hs41 : w38.cell? ⟨gb142, 2, none⟩ = some (.string (⟨#[]⟩ : ByteArray)) := (blk_cell BK142.out 2).trans rfl
           have hfs41 := kF_ BK142.out 2
           have hns41_0 := NB126_142.out
           have hns41_1 := NB134_142.out
           have hns41_2 := NB136_142.out
           have hms41_0 := NB142_126.out
           have hms41_1 := NB142_134.out
           have hms41_2 := NB142_136.out
           refine skip_ (w1 := ?_) (by rfl) rfl ?_ ?_
           rotate_left
           ·go_simp
            rfl
           refine hK.out _ _ ⟨((cell_far (p := ⟨gb142, _, none⟩) NB136_142.out _).trans (((cell_far (p := ⟨gb142, _, none⟩) NB136_142.out _).trans (((cell_far (p := ⟨gb142, _, none⟩) NB136_142.out _).trans (hHeld.1)))))), ((cell_far (p := ⟨gb142, _, none⟩) NB136_142.out _).trans (((cell_far (p := ⟨gb142, _, none⟩) NB136_142.out _).trans (((cell_far (p := ⟨gb142, _, none⟩) NB136_142.out _).trans (hHeld.2.1)))))), ((cell_far (p := ⟨gb142, _, none⟩) (by first | exact ab_ (VAway.away36 HO_7.out x29_1 (of_eq_true p137) (of_eq_true q137) (fun _ hk => hk.2.2.2.2)) | exact (VAway.away36 HO_7.out x29_1 (of_eq_true p137) (of_eq_true q137) (fun _ hk => hk.2.2.2.2))) _).trans (((cell_far (p := ⟨gb142, _, none⟩) (by first | exact ab_ (VAway.away36 HO_7.out x29_1 (of_eq_true p137) (of_eq_true q137) (fun _ hk => hk.2.2.2.2)) | exact (VAway.away36 HO_7.out x29_1 (of_eq_true p137) (of_eq_true q137) (fun _ hk => hk.2.2.2.2))) _).trans (((cell_far (p := ⟨gb142, _, none⟩) (by first | exact ab_ (VAway.away36 HO_7.out x29_1 (of_eq_true p137) (of_eq_true q137) (fun _ hk => hk.2.2.2.2)) | exact (VAway.away36 HO_7.out x29_1 (of_eq_true p137) (of_eq_true q137) (fun _ hk => hk.2.2.2.2))) _).trans (hHeld.2.2.1)))))), ((cell_far (p := ⟨gb142, _, none⟩) (by first | exact ab_ (VAway.away36 HO_7.out x29_1 (of_eq_true p137) (of_eq_true q137) (fun _ hk => hk.2.2.2.2)) | exact (VAway.away36 HO_7.out x29_1 (of_eq_true p137) (of_eq_true q137) (fun _ hk => hk.2.2.2.2))) _).trans (((cell_far (p := ⟨gb142, _, none⟩) (by first | exact ab_ (VAway.away36 HO_7.out x29_1 (of_eq_true p137) (of_eq_true q137) (fun _ hk => hk.2.2.2.2)) | exact (VAway.away36 HO_7.out x29_1 (of_eq_true p137) (of_eq_true q137) (fun _ hk => hk.2.2.2.2))) _).trans (((cell_far (p := ⟨gb142, _, none⟩) (by first | exact ab_ (VAway.away36 HO_7.out x29_1 (of_eq_true p137) (of_eq_true q137) (fun _ hk => hk.2.2.2.2)) | exact (VAway.away36 HO_7.out x29_1 (of_eq_true p137) (of_eq_true q137) (fun _ hk => hk.2.2.2.2))) _).trans (hHeld.2.2.2))))))⟩ (fun hHeld => ?_)
           clear hK K
           refine pure_ (i := 13) (N := some 14) #[true, true, true, true, true, true, true, true, true, true, true, true, true, true] rfl rfl (any_of HT_.out (by kernel_rfl)) (fun _ _ _ h => h) (Or.inl ⟨by rfl, fun w' => by go_simp; with_reducible rfl⟩) (by simp only [ps_]; rfl) ?_
           refine done_ (done_of HT_.out (by kernel_rfl)) ?_
           have hnb42 := NB136_142.out
           have hnc42 := NB142_136.out
           have hcz43_0 : w38.cell? ⟨gb136, 0, none⟩ = some (.string ((rd_T36 l0 x29_1).f0)) := (blk_cell BK136.out 0).trans rfl
           have hcz43_1 : w38.cell? ⟨gb136, 1, none⟩ = some (.string ((rd_T36 l0 x29_1).f1)) := (blk_cell BK136.out 1).trans rfl
           have hfz43_0 := kF_ BK136.out 0
           have hfz43_1 := kF_ BK136.out 1
           have hnb44 := NB142_126.out
           have hnc44 := NB126_142.out
           have hnb45 := NB142_134.out
           have hnc45 := NB134_142.out
           have hcz46_0 : w38.cell? ⟨gb142, 0, none⟩ = some (.int .i64 0) := (blk_cell BK142.out 0).trans rfl
           have hcz46_1 : w38.cell? ⟨gb142, 1, none⟩ = some (.int .i64 0) := (blk_cell BK142.out 1).trans rfl
           have hcz46_2 : w38.cell? ⟨gb142, 2, none⟩ = some (.string (⟨#[]⟩ : ByteArray)) := (blk_cell BK142.out 2).trans rfl
           have hfz46_0 := kF_ BK142.out 0
           have hfz46_1 := kF_ BK142.out 1
           have hfz46_2 := kF_ BK142.out 2
           try go_wp2_with (first | ((with_reducible refine gate_dst (N := 51) rfl ?_); (try (refine gate_guard (by rfl) ?_; dsimp only)); refine Kd.R_lit k58 _ 58 ?hg (N := 51) ?hd (xs := ([(⟨t138, t139, t140⟩ : S58)] : List (S58))) (inner := [.int .i64 t138, .int .i64 t139, .string t140]) (ok := fun _ => True) (okp := fun _ => True) ?hr ?hp (fun _ hk => hk) trivial (Below.refl _ _) (Nat.le_refl _) (by simp) ?_; (case hd => rfl); (case hg => rfl); (case hr => first | (go_simp; done) | (go_simp; rfl)); (case hp => exact (Reps.c3 (show Kd.M k58 _ _ _ (⟨t138, t139, t140⟩ : S58) [.int .i64 t138, .int .i64 t139, .string t140] from (k58_mkM _ _ _ (⟨t138, t139, t140⟩ : S58) )) (Reps.none _ _))); intro v144 w47 ho48 hb hg_ hnew_; clear hg_ hnew_; (first | rw [← Ny143.out] at ho48 | (simp only [Int.reduceToNat] at ho48; rw [← Ny143.out] at ho48)); replace HO_7 := a0_ (Kd.V_elder' (by (with_reducible repeat (first | apply Kd.V_alloc | apply Kd.V_drewN | apply Kd.V_drew)); exact (Kd.V_mono (Kd.V_far (p := ⟨gb142, 2, none⟩) (Kd.V_far (p := ⟨gb142, 1, none⟩) (Kd.V_far (p := ⟨gb142, 0, none⟩) (Kd.V_mono HO_7.out (fun k_ hk => (⟨hk, hk.2.2.2.2⟩ : _ ∧ k_ ≠ gb142))) (fun _ hk => hk.2) (.int .i64 t138)) (fun _ hk => hk.2) (.int .i64 t139)) (fun _ hk => hk.2) (.string t140)) (fun _ h_ => h_.1))) (Kd.R_base ho48) hb); replace HO_10 := a0_ (Kd.R_below (by (with_reducible repeat (first | apply Kd.R_alloc | apply Kd.R_drewN | apply Kd.R_drew)); exact (Kd.R_mono (Kd.R_far (p := ⟨gb142, 2, none⟩) (Kd.R_far (p := ⟨gb142, 1, none⟩) (Kd.R_far (p := ⟨gb142, 0, none⟩) (Kd.R_types HO_10.out BK142.out (by decide)) (fun _ hk => hk.2) (.int .i64 t138)) (fun _ hk => hk.2) (.int .i64 t139)) (fun _ hk => hk.2) (.string t140)) (fun _ h_ => h_.1))) hb); have HO145 := a0_ (Kd.R_lower (Kd.R_newB ho48 (g := gb142) (o := .cells #[.int .i64 t138, .int .i64 t139, .string t140] 58 (0, 0)) (by refine blk_put (cs := #[.int .i64 t138, .int .i64 t139, .string (⟨#[]⟩ : ByteArray)]) ?_ 2 _ rfl; refine blk_put (cs := #[.int .i64 t138, .int .i64 0, .string (⟨#[]⟩ : ByteArray)]) ?_ 1 _ rfl; refine blk_put (cs := #[.int .i64 0, .int .i64 0, .string (⟨#[]⟩ : ByteArray)]) ?_ 0 _ rfl; exact BK142.out)) (bZ_ (by repeat (first | (with_reducible first | exact HB.out | apply bA_ | apply bN_ | apply bD_ | refine bS_ ?_ GE126.out | refine bS_ ?_ GE134.out | refine bS_ ?_ GE136.out | refine bS_ ?_ GE142.out) | exact HB.out)))); replace BK126 := a0_ (kB_ (g := gb126) (o := .cells #[.int .i64 0, .int .i64 0, .int .i64 0] 30 (0, 0)) (by refine blk_far ?_ NB126_142.out _; refine blk_far ?_ NB126_142.out _; refine blk_far ?_ NB126_142.out _; exact BK126.out) hb); replace BK134 := a0_ (kB_ (g := gb134) (o := .cells #[.int .i64 t131, .int .i64 t132, .int .i64 t133] 30 (0, 0)) (by refine blk_far ?_ NB134_142.out _; refine blk_far ?_ NB134_142.out _; refine blk_far ?_ NB134_142.out _; exact BK134.out) hb); replace BK136 := a0_ (kB_ (g := gb136) (o := .cells #[.string ((rd_T36 l0 x29_1).f0), .string ((rd_T36 l0 x29_1).f1)] 36 (0, 0)) (by refine blk_far ?_ NB136_142.out _; refine blk_far ?_ NB136_142.out _; refine blk_far ?_ NB136_142.out _; exact BK136.out) hb); replace BK142 := a0_ (kB_ (g := gb142) (o := .cells #[.int .i64 t138, .int .i64 t139, .string t140] 58 (0, 0)) (by refine blk_put (cs := #[.int .i64 t138, .int .i64 t139, .string (⟨#[]⟩ : ByteArray)]) ?_ 2 _ rfl; refine blk_put (cs := #[.int .i64 t138, .int .i64 0, .string (⟨#[]⟩ : ByteArray)]) ?_ 1 _ rfl; refine blk_put (cs := #[.int .i64 0, .int .i64 0, .string (⟨#[]⟩ : ByteArray)]) ?_ 0 _ rfl; exact BK142.out) hb); replace HB := a0_ (bT_ (by repeat (first | (with_reducible first | exact HB.out | apply bA_ | apply bN_ | apply bD_ | refine bS_ ?_ GE126.out | refine bS_ ?_ GE134.out | refine bS_ ?_ GE136.out | refine bS_ ?_ GE142.out) | exact HB.out)) hb); clear hb ho48; obtain ⟨Ao49, co49, eo49⟩ := Kd.R_slice HO145.out; subst eo49) | (go_at_call 23; (with_reducible refine (edit_Check.calls k1 (((rd_T36 l0 x29_1).f1).size : Int) _ _ y143 t146 _ ?side1 ?side2 A26.out).mono ?_); (case side1 => repeat (first | exact (Kd.R_reads' HO145.out).2.2 | (with_reducible refine Kd.C_alloc ?_ _) | (with_reducible refine Kd.C_drewN ?_ _) | (with_reducible refine Kd.C_drew ?_))); (case side2 => exact (Kd.R_reads' HO145.out).2.1); rintro e w50 ⟨rfl, hb⟩; replace HO_7 := a0_ (Kd.V_below (by exact HO_7.out) hb); replace HO_10 := a0_ (Kd.R_below (by exact HO_10.out) hb); replace HO145 := a0_ (Kd.R_below (by exact HO145.out) hb); replace BK126 := a0_ (kB_ (g := gb126) (o := .cells #[.int .i64 0, .int .i64 0, .int .i64 0] 30 (0, 0)) (by exact BK126.out) hb); replace BK134 := a0_ (kB_ (g := gb134) (o := .cells #[.int .i64 t131, .int .i64 t132, .int .i64 t133] 30 (0, 0)) (by exact BK134.out) hb); replace BK136 := a0_ (kB_ (g := gb136) (o := .cells #[.string ((rd_T36 l0 x29_1).f0), .string ((rd_T36 l0 x29_1).f1)] 36 (0, 0)) (by exact BK136.out) hb); replace BK142 := a0_ (kB_ (g := gb142) (o := .cells #[.int .i64 t138, .int .i64 t139, .string t140] 58 (0, 0)) (by exact BK142.out) hb); replace HB := a0_ (bT_ (by exact HB.out) hb); (try clear hb); (try clear hb2); (try clear hk); (try clear hi); have hcz51_0 : w50.cell? ⟨gb142, 0, none⟩ = some (.int .i64 t138) := (blk_cell BK142.out 0).trans rfl; have hcz51_1 : w50.cell? ⟨gb142, 1, none⟩ = some (.int .i64 t139) := (blk_cell BK142.out 1).trans rfl; have hcz51_2 : w50.cell? ⟨gb142, 2, none⟩ = some (.string t140) := (blk_cell BK142.out 2).trans rfl; have hfz51_0 := kF_ BK142.out 0; have hfz51_1 := kF_ BK142.out 1; have hfz51_2 := kF_ BK142.out 2) | ((with_reducible refine gate_builtin (b := .append) (xs := #[.tmp 55, .tmp 64]) rfl ?_); (try (refine gate_guard (by rfl) ?_; dsimp only)); at_builtin; refine Kd.R_append k34 (w0 := w) w.heap.size rfl (.tmp 55) (.tmp 64) 27 34 (.agg #[(.int .i64 0), (.int .i64 0), (.int .i64 0), (.string ⟨#[]⟩)]) 40 rfl Try.underlying27 info34 rfl (by decide) (by omega) u10 x10_1 (⟨x29_1, t138, t139, t140⟩ : S34) [.int .i64 x29_1, .int .i64 t138, .int .i64 t139, .string t140] (fun _ => True) (fun _ => False) rfl rfl ?aP (fun _ hk => hk.elim) ?aF ?aO ?aB ?aS ?aL ?_; (case aP => exact k34_mkM _ _ _ (⟨x29_1, t138, t139, t140⟩ : S34)); (case aB => exact (by exact HB.out)); (case aF => exact (fun _ _ => trivial)); (case aO => exact (by exact HO_10.out)); (case aS => exact (bZ_ (by exact HB.out))); (case aL => have := LMc28.out; omega); intro v148 w52 ho hb hg hat; rw [← Ny147.out] at ho; replace HO_7 := a0_ (Kd.V_afterv (ok := (fun k_ => some k_ ≠ (.slice Ao49 y143.length co49 : Value).ownBlock ∧ k_ ≠ gb126 ∧ k_ ≠ gb134 ∧ k_ ≠ gb136 ∧ k_ ≠ gb142)) (by exact Kd.V_mono HO_7.out (fun _ hk => ⟨⟨hk.2, ⟨hk.1.2.1, ⟨hk.1.2.2.1, ⟨hk.1.2.2.2.1, hk.1.2.2.2.2⟩⟩⟩⟩, hk.1.1⟩)) hg hat); replace BK126 := a0_ (blk_grown (g := gb126) (o := .cells #[.int .i64 0, .int .i64 0, .int .i64 0] 30 (0, 0)) (by exact BK126.out) hg (Kd.R_ne HO_10.out BK126.out (by decide))); replace BK134 := a0_ (blk_grown (g := gb134) (o := .cells #[.int .i64 t131, .int .i64 t132, .int .i64 t133] 30 (0, 0)) (by exact BK134.out) hg (Kd.R_ne HO_10.out BK134.out (by decide))); replace BK136 := a0_ (blk_grown (g := gb136) (o := .cells #[.string ((rd_T36 l0 x29_1).f0), .string ((rd_T36 l0 x29_1).f1)] 36 (0, 0)) (by exact BK136.out) hg (Kd.R_ne HO_10.out BK136.out (by decide))); replace BK142 := a0_ (blk_grown (g := gb142) (o := .cells #[.int .i64 t138, .int .i64 t139, .string t140] 58 (0, 0)) (by exact BK142.out) hg (Kd.R_ne HO_10.out BK142.out (by decide))); replace HO145 := a0_ (Kd.R_over' (by exact HO145.out) (Kd.R_typed (by exact HO_10.out)) (by decide) hg); replace HB := a0_ (hb); have HO149 := a0_ (ho); clear HO_10; clear ho hb hg hat))
           go_roundg k1
           case measure => have := HK1.out; omega
           case rel => exact ⟨(y147), (wrap64 (x29_1 + 1)), (by first | rfl | (simp; done) | (simp [*]; done)), H', ⟨by have := HK1.out; omega⟩, ⟨by exact Kd.V_mono HO_7.out (fun _ hk => ⟨hk.2, ⟨hk.1.2.1, hk.1.2.2.1⟩⟩)⟩, ⟨by exact HO149.out⟩, ⟨by exact BK126.out⟩, ⟨by exact BK134.out⟩, ⟨by exact HB.out⟩⟩
          ·rw [if_neg c28] at H
           exact absurd H (by simp)
         ·rw [if_neg c27] at H
          have c27b0 : (t146 == 0) = false := beq_eq_false_iff_ne.mpr c27
          have c27b1 : (t146 != 0) = true := bne_iff_ne.mpr c27
          have H' := a0_ H
          clear H
          have p135 : 0 ≤ (x29_1 : Int) := od_ (by assumption)
          have q135 : x29_1 < (l0.length : Int) := od_ (by assumption)
          obtain ⟨ad135, e135, hx135_0, hx135_1⟩ := at_T36 HR0.out x29_1 p135 q135
          cases e135
          replace hx135_0 := (HB.out.cell (bl_ w _ hx135_0)).trans hx135_0
          replace hx135_1 := (HB.out.cell (bl_ w _ hx135_1)).trans hx135_1
          replace p135 := eq_true p135
          replace q135 := eq_true q135
          try go_wp2_with (first | ((with_reducible refine gate_dst (N := 12) rfl ?_); (try (refine gate_guard (by rfl) ?_; dsimp only)); refine box_event ?hg (N := 12) ?hd (cs := #[.string (⟨#[]⟩ : ByteArray), .string (⟨#[]⟩ : ByteArray)]) (t := 36) ?hr ?_; (case hd => rfl); (case hg => rfl); (case hr => first | (go_simp; done) | (go_simp; rfl)); intro gb136 hg w53 hbox hb; replace HO_7 := a0_ (Kd.V_below (Kd.V_elderB (by exact HO_7.out) gb136 (Nat.le_of_eq hg.symm)) hb); replace HO_10 := a0_ (Kd.R_below (by exact HO_10.out) hb); have BK136 := a0_ (hbox); have GW136 := a0_ ((by rw [hg]; exact (bZ_ (by exact HB.out)) : w.heap.size ≤ gb136)); have GE136 := a0_ ((by rw [hg]; exact (bZ_ (by exact HB.out)) : w.heap.size ≤ gb136)); replace HB := a0_ (bT_ (by exact HB.out) hb); have NB126_136 := a0_ ((by rw [hg]; exact Nat.ne_of_lt (blk_lt (g := gb126) (o := .cells #[.int .i64 0, .int .i64 0, .int .i64 0] 30 (0, 0)) (by exact BK126.out)) : gb126 ≠ gb136)); have NB136_126 := a0_ ((by rw [hg]; exact Nat.ne_of_gt (blk_lt (g := gb126) (o := .cells #[.int .i64 0, .int .i64 0, .int .i64 0] 30 (0, 0)) (by exact BK126.out)) : gb136 ≠ gb126)); replace BK126 := a0_ (kB_ (g := gb126) (o := .cells #[.int .i64 0, .int .i64 0, .int .i64 0] 30 (0, 0)) (by exact BK126.out) hb); have NB134_136 := a0_ ((by rw [hg]; exact Nat.ne_of_lt (blk_lt (g := gb134) (o := .cells #[.int .i64 t131, .int .i64 t132, .int .i64 t133] 30 (0, 0)) (by exact BK134.out)) : gb134 ≠ gb136)); have NB136_134 := a0_ ((by rw [hg]; exact Nat.ne_of_gt (blk_lt (g := gb134) (o := .cells #[.int .i64 t131, .int .i64 t132, .int .i64 t133] 30 (0, 0)) (by exact BK134.out)) : gb136 ≠ gb134)); replace BK134 := a0_ (kB_ (g := gb134) (o := .cells #[.int .i64 t131, .int .i64 t132, .int .i64 t133] 30 (0, 0)) (by exact BK134.out) hb); clear hb hbox hg; have hnb54 := NB136_126.out; have hnc54 := NB126_136.out; have hnb55 := NB136_134.out; have hnc55 := NB134_136.out; have hcz56_0 : w53.cell? ⟨gb136, 0, none⟩ = some (.string (⟨#[]⟩ : ByteArray)) := (blk_cell BK136.out 0).trans rfl; have hcz56_1 : w53.cell? ⟨gb136, 1, none⟩ = some (.string (⟨#[]⟩ : ByteArray)) := (blk_cell BK136.out 1).trans rfl; have hfz56_0 := kF_ BK136.out 0; have hfz56_1 := kF_ BK136.out 1))
          replace HO_7 : Aside0 (Kd.V k36 36 ((w53.setCell ⟨gb136, 0, none⟩ (.string ((rd_T36 l0 x29_1).f0))).setCell ⟨gb136, 1, none⟩ (.string ((rd_T36 l0 x29_1).f1))) w.heap.size (fun k_ => some k_ ≠ (u10 : Value).ownBlock ∧ k_ ≠ gb126 ∧ k_ ≠ gb134 ∧ k_ ≠ gb136) v128 t127) := ⟨by exact Kd.V_mono (Kd.V_far (p := ⟨gb136, 1, none⟩) (Kd.V_far (p := ⟨gb136, 0, none⟩) (Kd.V_mono HO_7.out (fun k_ hk => (⟨hk, hk.2⟩ : _ ∧ k_ ≠ gb136))) (fun _ hk => hk.2) (.string ((rd_T36 l0 x29_1).f0))) (fun _ hk => hk.2) (.string ((rd_T36 l0 x29_1).f1))) (fun _ hk => ⟨hk.1.1.1, ⟨hk.1.1.2.1, ⟨hk.1.1.2.2, hk.1.2⟩⟩⟩)⟩
          replace HO_10 : Aside0 (Kd.R k34 34 ((w53.setCell ⟨gb136, 0, none⟩ (.string ((rd_T36 l0 x29_1).f0))).setCell ⟨gb136, 1, none⟩ (.string ((rd_T36 l0 x29_1).f1))) w.heap.size (fun _ => True) u10 x10_1) := ⟨by exact Kd.R_mono (Kd.R_far (p := ⟨gb136, 1, none⟩) (Kd.R_far (p := ⟨gb136, 0, none⟩) (Kd.R_types HO_10.out BK136.out (by decide)) (fun _ hk => hk.2) (.string ((rd_T36 l0 x29_1).f0))) (fun _ hk => hk.2) (.string ((rd_T36 l0 x29_1).f1))) (fun _ hk => trivial)⟩
          replace BK126 : Aside0 (((w53.setCell ⟨gb136, 0, none⟩ (.string ((rd_T36 l0 x29_1).f0))).setCell ⟨gb136, 1, none⟩ (.string ((rd_T36 l0 x29_1).f1))).heap[gb126]? = some (.cells #[.int .i64 0, .int .i64 0, .int .i64 0] 30 (0, 0))) := ⟨by refine blk_far ?_ NB126_136.out _; refine blk_far ?_ NB126_136.out _; exact BK126.out⟩
          replace BK134 : Aside0 (((w53.setCell ⟨gb136, 0, none⟩ (.string ((rd_T36 l0 x29_1).f0))).setCell ⟨gb136, 1, none⟩ (.string ((rd_T36 l0 x29_1).f1))).heap[gb134]? = some (.cells #[.int .i64 t131, .int .i64 t132, .int .i64 t133] 30 (0, 0))) := ⟨by refine blk_far ?_ NB134_136.out _; refine blk_far ?_ NB134_136.out _; exact BK134.out⟩
          replace BK136 : Aside0 (((w53.setCell ⟨gb136, 0, none⟩ (.string ((rd_T36 l0 x29_1).f0))).setCell ⟨gb136, 1, none⟩ (.string ((rd_T36 l0 x29_1).f1))).heap[gb136]? = some (.cells #[.string ((rd_T36 l0 x29_1).f0), .string ((rd_T36 l0 x29_1).f1)] 36 (0, 0))) := ⟨by refine blk_put (cs := #[.string ((rd_T36 l0 x29_1).f0), .string (⟨#[]⟩ : ByteArray)]) ?_ 1 _ rfl; refine blk_put (cs := #[.string (⟨#[]⟩ : ByteArray), .string (⟨#[]⟩ : ByteArray)]) ?_ 0 _ rfl; exact BK136.out⟩
          replace HB : Aside0 (Below w.heap.size w ((w53.setCell ⟨gb136, 0, none⟩ (.string ((rd_T36 l0 x29_1).f0))).setCell ⟨gb136, 1, none⟩ (.string ((rd_T36 l0 x29_1).f1)))) := ⟨by repeat (first | (with_reducible first | exact HB.out | apply bA_ | apply bN_ | apply bD_ | refine bS_ ?_ GE126.out | refine bS_ ?_ GE134.out | refine bS_ ?_ GE136.out) | exact HB.out)⟩
          generalize ((w53.setCell ⟨gb136, 0, none⟩ (.string ((rd_T36 l0 x29_1).f0))).setCell ⟨gb136, 1, none⟩ (.string ((rd_T36 l0 x29_1).f1))) = w57 at HO_7 HO_10 BK126 BK134 BK136 HB ⊢
          replace HO_7 := a0_ (Kd.V_drew HO_7.out)
          replace HO_10 := a0_ (Kd.R_drew HO_10.out)
          replace BK126 := a0_ (kD_ BK126.out)
          replace BK134 := a0_ (kD_ BK134.out)
          replace BK136 := a0_ (kD_ BK136.out)
          replace HB := a0_ (bD_ HB.out)
          obtain ⟨Ao59, co59, eo59⟩ := Kd.V_slice HO_7.out
          (first | subst eo59 | (injection eo59 with f1_ f2_ f3_; have f4_ := f1_.symm; have f5_ := f3_.symm; clear f1_ f2_ f3_; subst f4_; subst f5_))
          have p137 : 0 ≤ (x29_1 : Int) := od_ (by assumption)
          have q137 : x29_1 < (t127.length : Int) := od_ (by assumption)
          obtain ⟨ad137, e137, hx137_0, hx137_1⟩ := at_T36 (Kd.V_reads' HO_7.out).2.2 x29_1 p137 q137
          cases e137
          replace p137 := eq_true p137
          replace q137 := eq_true q137
          refine start_ (n := 14) (S := fun w' => w'.cell? ⟨gb136, 0, none⟩ = some (.string ((rd_T36 l0 x29_1).f0)) ∧ w'.cell? ⟨gb136, 1, none⟩ = some (.string ((rd_T36 l0 x29_1).f1)) ∧ w'.cell? (ad137.add ((x29_1).toNat * 2)) = some (.string ((rd_T36 t127 x29_1).f0)) ∧ w'.cell? ⟨(ad137.add ((x29_1).toNat * 2)).block, (ad137.add ((x29_1).toNat * 2)).off + 1, none⟩ = some (.string ((rd_T36 t127 x29_1).f1))) (ds := []) #[false, false, false, false, false, false, false, false, false, false, false, false, false, false] (by kernel_rfl) rfl rfl ⟨(blk_cell BK136.out 0).trans rfl, (blk_cell BK136.out 1).trans rfl, hx137_0, hx137_1⟩ (fun hHeld => ?_); refine with_tabW merge_Net.tab8 merge_Net.bits8 (fun HT_ HW_ => ?_)
          generalize w57.drew = w58 at HO_7 HO_10 BK126 BK134 BK136 HB hx137_0 hx137_1 hHeld ⊢
          refine pure_ (i := 0) (N := some 35) #[true, false, false, false, false, false, false, false, false, false, false, false, false, false] rfl rfl (any_of HT_.out (by kernel_rfl)) (fun _ _ _ h => h) (Or.inl ⟨by rfl, fun w' => by go_simp; with_reducible rfl⟩) (by simp only [ps_]; rfl) ?_
          refine pure_ (i := 2) (N := some 37) #[true, false, true, false, false, false, false, false, false, false, false, false, false, false] rfl rfl (any_of HT_.out (by kernel_rfl)) (fun _ _ _ h => h) (Or.inl ⟨by rfl, fun w' => by go_simp; with_reducible rfl⟩) (by simp only [ps_]; rfl) ?_
          refine pure_ (i := 3) (N := some 38) #[true, false, true, true, false, false, false, false, false, false, false, false, false, false] rfl rfl (any_of HT_.out (by kernel_rfl)) (fun _ _ _ h => h) (Or.inl ⟨by rfl, fun w' => by go_simp; with_reducible rfl⟩) (by simp only [ps_]; rfl) ?_
          refine pure_ (i := 4) (N := some 39) #[true, false, true, true, true, false, false, false, false, false, false, false, false, false] rfl rfl (any_of HT_.out (by kernel_rfl)) (fun _ _ _ h => h) (Or.inl ⟨by rfl, fun w' => by go_simp; with_reducible rfl⟩) (by simp only [ps_]; rfl) ?_
          refine pure_ (i := 5) (N := some 40) #[true, false, true, true, true, true, false, false, false, false, false, false, false, false] rfl rfl (any_of HT_.out (by kernel_rfl)) (fun _ _ _ h => h) (Or.inl ⟨by rfl, fun w' => by go_simp; with_reducible rfl⟩) (by simp only [ps_]; rfl) ?_
          refine take_ (i := 1) (N := some 36) (v := ?_) (a' := ?_) #[true, true, true, true, true, true, false, false, false, false, false, false, false, false] rfl rfl (take_ofW HT_.out HW_.out (by kernel_rfl)) (fun _ _ _ h => h) (Or.inl ⟨by rfl, ?_⟩) hHeld ?_ ?_
          rotate_left
          ·rintro w' ⟨s0, s1, s2, s3⟩
           go_simp
           with_reducible rfl
          rotate_left
          ·simp only [ps_]
           rfl
          refine take_ (i := 6) (N := some 41) (v := ?_) (a' := ?_) #[true, true, true, true, true, true, true, false, false, false, false, false, false, false] rfl rfl (take_ofW HT_.out HW_.out (by kernel_rfl)) (fun _ _ _ h => h) (Or.inl ⟨by rfl, ?_⟩) hHeld ?_ ?_
          rotate_left
          ·rintro w' ⟨s0, s1, s2, s3⟩
           go_simp
           with_reducible rfl
          rotate_left
          ·simp only [ps_]
           rfl
          refine join_ (σ := Nat) 2 #[true, true, true, true, true, true, true, true, true, true, true, true, false, false] (fun s_ => [(42, .tuple #[.agg #[.int .i64 t138, .int .i64 t139, .string t140], .bool true]), (13, .pointer (some ⟨s_, 0, none⟩)), (34, .tuple #[.agg #[.int .i64 t138, .int .i64 t139, .string t140], .bool true]), (43, .agg #[.int .i64 t138, .int .i64 t139, .string t140]), (44, .bool true)]) (fun s_ w' => (w'.cell? ⟨gb136, 0, none⟩ = some (.string ((rd_T36 l0 x29_1).f0)) ∧ w'.cell? ⟨gb136, 1, none⟩ = some (.string ((rd_T36 l0 x29_1).f1)) ∧ w'.cell? (ad137.add ((x29_1).toNat * 2)) = some (.string ((rd_T36 t127 x29_1).f0)) ∧ w'.cell? ⟨(ad137.add ((x29_1).toNat * 2)).block, (ad137.add ((x29_1).toNat * 2)).off + 1, none⟩ = some (.string ((rd_T36 t127 x29_1).f1))) ∧ (Kd.R k34 34 w' w.heap.size (fun _ => True) u10 x10_1) ∧ (Kd.V k36 36 w' w.heap.size (fun k_ => some k_ ≠ (u10 : Value).ownBlock ∧ k_ ≠ gb126 ∧ k_ ≠ gb134 ∧ k_ ≠ gb136 ∧ k_ ≠ s_) (.slice (some ad137) t127.length co59) t127) ∧ (w'.heap[gb126]? = some (.cells #[.int .i64 0, .int .i64 0, .int .i64 0] 30 (0, 0))) ∧ (w'.heap[gb134]? = some (.cells #[.int .i64 t131, .int .i64 t132, .int .i64 t133] 30 (0, 0))) ∧ (w'.heap[gb136]? = some (.cells #[.string ((rd_T36 l0 x29_1).f0), .string ((rd_T36 l0 x29_1).f1)] 36 (0, 0))) ∧ (w'.heap[s_]? = some (.cells #[.int .i64 0, .int .i64 0, .string (⟨#[]⟩ : ByteArray)] 58 (0, 0))) ∧ (w.heap.size ≤ s_) ∧ (w.heap.size ≤ s_) ∧ (gb126 ≠ s_) ∧ (s_ ≠ gb126) ∧ (gb134 ≠ s_) ∧ (s_ ≠ gb134) ∧ (gb136 ≠ s_) ∧ (s_ ≠ gb136) ∧ (Below w.heap.size w w')) ?_ ?_
          rotate_left
          ·intro hCont
           refine two_ (i := 7) (j := 11) (Ni := some 42) (Nj := some 13) #[true, true, true, true, true, true, true, true, false, false, false, false, false, false] #[true, true, true, true, true, true, true, false, false, false, false, true, false, false] rfl rfl rfl rfl (two_of HT_.out (by kernel_rfl)) (by decide) (by decide) (fun K hK => ?_) (fun K hK => ?_)
           ·skip
            refine goes_ Try.func22 (by kernel_rfl) rfl #[.string ((rd_T36 l0 x29_1).f1), .string ((rd_T36 t127 x29_1).f1)] (by rfl) rfl rfl (by (try simp only [List.map_toArray, List.map_cons, List.map_nil]); first | done | rfl | (simp only [List.length_drop, List.length_take]; rfl)) ?_
            with_reducible refine (merge_tight.calls k1 ((rd_T36 l0 x29_1).f1) ((rd_T36 t127 x29_1).f1) t138 t139 t140 true _ A24.out).mono ?_
            rintro e w60 ⟨rfl, hb⟩
            have HS2_ := (hb.cell (bl_ _ _ (hHeld.2.2.1))).trans (hHeld.2.2.1)
            have HS3_ := (hb.cell (bl_ _ _ (hHeld.2.2.2))).trans (hHeld.2.2.2)
            refine ⟨_, rfl, ?_⟩
            replace HO_7 := a0_ (Kd.V_below (by exact HO_7.out) hb)
            replace HO_10 := a0_ (Kd.R_below (by exact HO_10.out) hb)
            replace BK126 := a0_ (kB_ (g := gb126) (o := .cells #[.int .i64 0, .int .i64 0, .int .i64 0] 30 (0, 0)) (by exact BK126.out) hb)
            replace BK134 := a0_ (kB_ (g := gb134) (o := .cells #[.int .i64 t131, .int .i64 t132, .int .i64 t133] 30 (0, 0)) (by exact BK134.out) hb)
            replace BK136 := a0_ (kB_ (g := gb136) (o := .cells #[.string ((rd_T36 l0 x29_1).f0), .string ((rd_T36 l0 x29_1).f1)] 36 (0, 0)) (by exact BK136.out) hb)
            replace HB := a0_ (bT_ (by exact HB.out) hb)
            refine hK.out _ _ ⟨(blk_cell BK136.out 0).trans rfl, (blk_cell BK136.out 1).trans rfl, HS2_, HS3_⟩ (fun hHeld => ?_)
            clear hK K
            refine norm_ (a' := ?_) ?_ ?_
            rotate_left
            ·show Act.put _ (some 42) _ = _
             simp only [ps_]
             rfl
            refine pure_ (i := 8) (N := some 34) #[true, true, true, true, true, true, true, true, true, false, false, false, false, false] rfl rfl (any_of HT_.out (by kernel_rfl)) (fun _ _ _ h => h) (Or.inl ⟨by rfl, fun w' => by go_simp; with_reducible rfl⟩) (by simp only [ps_]; rfl) ?_
            refine pure_ (i := 9) (N := some 43) #[true, true, true, true, true, true, true, true, true, true, false, false, false, false] rfl rfl (any_of HT_.out (by kernel_rfl)) (fun _ _ _ h => h) (Or.inl ⟨by rfl, fun w' => by go_simp; with_reducible rfl⟩) (by simp only [ps_]; rfl) ?_
            refine pure_ (i := 10) (N := some 44) #[true, true, true, true, true, true, true, true, true, true, true, false, false, false] rfl rfl (any_of HT_.out (by kernel_rfl)) (fun _ _ _ h => h) (Or.inl ⟨by rfl, fun w' => by go_simp; with_reducible rfl⟩) (by simp only [ps_]; rfl) ?_
            refine one_ (i := 11) (N := some 13) #[true, true, true, true, true, true, true, true, true, true, true, true, false, false] rfl rfl (one_of HT_.out (by kernel_rfl)) (by decide) (fun K hK => ?_)
            refine box_step ?hg (N := 13) ?hd (cs := #[.int .i64 0, .int .i64 0, .string (⟨#[]⟩ : ByteArray)]) (t := 58) ?hr ?_; (case hd => rfl); (case hg => rfl); (case hr => first | (go_simp; done) | (go_simp; rfl))
            intro gb142 hg w61 hbox hb
            have HS2_ := (hb.cell (bl_ _ _ (hHeld.2.2.1))).trans (hHeld.2.2.1)
            have HS3_ := (hb.cell (bl_ _ _ (hHeld.2.2.2))).trans (hHeld.2.2.2)
            replace HO_7 := a0_ (Kd.V_below (Kd.V_elderB (by exact HO_7.out) gb142 (Nat.le_of_eq hg.symm)) hb)
            replace HO_10 := a0_ (Kd.R_below (by exact HO_10.out) hb)
            have BK142 := a0_ (hbox)
            have GW142 := a0_ ((by rw [hg]; exact (bZ_ (by exact HB.out)) : w.heap.size ≤ gb142))
            have GE142 := a0_ ((by rw [hg]; exact (bZ_ (by exact HB.out)) : w.heap.size ≤ gb142))
            replace HB := a0_ (bT_ (by exact HB.out) hb)
            have NB126_142 := a0_ ((by rw [hg]; exact Nat.ne_of_lt (blk_lt (g := gb126) (o := .cells #[.int .i64 0, .int .i64 0, .int .i64 0] 30 (0, 0)) (by exact BK126.out)) : gb126 ≠ gb142))
            have NB142_126 := a0_ ((by rw [hg]; exact Nat.ne_of_gt (blk_lt (g := gb126) (o := .cells #[.int .i64 0, .int .i64 0, .int .i64 0] 30 (0, 0)) (by exact BK126.out)) : gb142 ≠ gb126))
            replace BK126 := a0_ (kB_ (g := gb126) (o := .cells #[.int .i64 0, .int .i64 0, .int .i64 0] 30 (0, 0)) (by exact BK126.out) hb)
            have NB134_142 := a0_ ((by rw [hg]; exact Nat.ne_of_lt (blk_lt (g := gb134) (o := .cells #[.int .i64 t131, .int .i64 t132, .int .i64 t133] 30 (0, 0)) (by exact BK134.out)) : gb134 ≠ gb142))
            have NB142_134 := a0_ ((by rw [hg]; exact Nat.ne_of_gt (blk_lt (g := gb134) (o := .cells #[.int .i64 t131, .int .i64 t132, .int .i64 t133] 30 (0, 0)) (by exact BK134.out)) : gb142 ≠ gb134))
            replace BK134 := a0_ (kB_ (g := gb134) (o := .cells #[.int .i64 t131, .int .i64 t132, .int .i64 t133] 30 (0, 0)) (by exact BK134.out) hb)
            have NB136_142 := a0_ ((by rw [hg]; exact Nat.ne_of_lt (blk_lt (g := gb136) (o := .cells #[.string ((rd_T36 l0 x29_1).f0), .string ((rd_T36 l0 x29_1).f1)] 36 (0, 0)) (by exact BK136.out)) : gb136 ≠ gb142))
            have NB142_136 := a0_ ((by rw [hg]; exact Nat.ne_of_gt (blk_lt (g := gb136) (o := .cells #[.string ((rd_T36 l0 x29_1).f0), .string ((rd_T36 l0 x29_1).f1)] 36 (0, 0)) (by exact BK136.out)) : gb142 ≠ gb136))
            replace BK136 := a0_ (kB_ (g := gb136) (o := .cells #[.string ((rd_T36 l0 x29_1).f0), .string ((rd_T36 l0 x29_1).f1)] 36 (0, 0)) (by exact BK136.out) hb)
            clear hb hbox hg
            refine hK.out _ _ ⟨(blk_cell BK136.out 0).trans rfl, (blk_cell BK136.out 1).trans rfl, HS2_, HS3_⟩ (fun hHeld => ?_)
            clear hK K
            refine norm_ (a' := ?_) ?_ ?_
            rotate_left
            ·show Act.put _ (some 13) _ = _
             simp only [ps_]
             rfl
            exact norm_ (by simp only [putAll, Act.put, List.setIfInBounds_toArray, List.set_cons_zero, List.set_cons_succ]) (hCont (gb142) _ ⟨hHeld, (by exact HO_10.out), (by exact Kd.V_mono HO_7.out (fun _ hk => ⟨hk.1.1, ⟨hk.1.2.1, ⟨hk.1.2.2.1, ⟨hk.1.2.2.2, hk.2⟩⟩⟩⟩)), (by exact BK126.out), (by exact BK134.out), (by exact BK136.out), (by exact BK142.out), GW142.out, GE142.out, NB126_142.out, NB142_126.out, NB134_142.out, NB142_134.out, NB136_142.out, NB142_136.out, (by exact HB.out)⟩)
           ·skip
            refine box_step ?hg (N := 13) ?hd (cs := #[.int .i64 0, .int .i64 0, .string (⟨#[]⟩ : ByteArray)]) (t := 58) ?hr ?_; (case hd => rfl); (case hg => rfl); (case hr => first | (go_simp; done) | (go_simp; rfl))
            intro gb142 hg w60 hbox hb
            have HS2_ := (hb.cell (bl_ _ _ (hHeld.2.2.1))).trans (hHeld.2.2.1)
            have HS3_ := (hb.cell (bl_ _ _ (hHeld.2.2.2))).trans (hHeld.2.2.2)
            replace HO_7 := a0_ (Kd.V_below (Kd.V_elderB (by exact HO_7.out) gb142 (Nat.le_of_eq hg.symm)) hb)
            replace HO_10 := a0_ (Kd.R_below (by exact HO_10.out) hb)
            have BK142 := a0_ (hbox)
            have GW142 := a0_ ((by rw [hg]; exact (bZ_ (by exact HB.out)) : w.heap.size ≤ gb142))
            have GE142 := a0_ ((by rw [hg]; exact (bZ_ (by exact HB.out)) : w.heap.size ≤ gb142))
            replace HB := a0_ (bT_ (by exact HB.out) hb)
            have NB126_142 := a0_ ((by rw [hg]; exact Nat.ne_of_lt (blk_lt (g := gb126) (o := .cells #[.int .i64 0, .int .i64 0, .int .i64 0] 30 (0, 0)) (by exact BK126.out)) : gb126 ≠ gb142))
            have NB142_126 := a0_ ((by rw [hg]; exact Nat.ne_of_gt (blk_lt (g := gb126) (o := .cells #[.int .i64 0, .int .i64 0, .int .i64 0] 30 (0, 0)) (by exact BK126.out)) : gb142 ≠ gb126))
            replace BK126 := a0_ (kB_ (g := gb126) (o := .cells #[.int .i64 0, .int .i64 0, .int .i64 0] 30 (0, 0)) (by exact BK126.out) hb)
            have NB134_142 := a0_ ((by rw [hg]; exact Nat.ne_of_lt (blk_lt (g := gb134) (o := .cells #[.int .i64 t131, .int .i64 t132, .int .i64 t133] 30 (0, 0)) (by exact BK134.out)) : gb134 ≠ gb142))
            have NB142_134 := a0_ ((by rw [hg]; exact Nat.ne_of_gt (blk_lt (g := gb134) (o := .cells #[.int .i64 t131, .int .i64 t132, .int .i64 t133] 30 (0, 0)) (by exact BK134.out)) : gb142 ≠ gb134))
            replace BK134 := a0_ (kB_ (g := gb134) (o := .cells #[.int .i64 t131, .int .i64 t132, .int .i64 t133] 30 (0, 0)) (by exact BK134.out) hb)
            have NB136_142 := a0_ ((by rw [hg]; exact Nat.ne_of_lt (blk_lt (g := gb136) (o := .cells #[.string ((rd_T36 l0 x29_1).f0), .string ((rd_T36 l0 x29_1).f1)] 36 (0, 0)) (by exact BK136.out)) : gb136 ≠ gb142))
            have NB142_136 := a0_ ((by rw [hg]; exact Nat.ne_of_gt (blk_lt (g := gb136) (o := .cells #[.string ((rd_T36 l0 x29_1).f0), .string ((rd_T36 l0 x29_1).f1)] 36 (0, 0)) (by exact BK136.out)) : gb142 ≠ gb136))
            replace BK136 := a0_ (kB_ (g := gb136) (o := .cells #[.string ((rd_T36 l0 x29_1).f0), .string ((rd_T36 l0 x29_1).f1)] 36 (0, 0)) (by exact BK136.out) hb)
            clear hb hbox hg
            refine hK.out _ _ ⟨(blk_cell BK136.out 0).trans rfl, (blk_cell BK136.out 1).trans rfl, HS2_, HS3_⟩ (fun hHeld => ?_)
            clear hK K
            refine norm_ (a' := ?_) ?_ ?_
            rotate_left
            ·show Act.put _ (some 13) _ = _
             simp only [ps_]
             rfl
            refine one_ (i := 7) (N := some 42) #[true, true, true, true, true, true, true, true, false, false, false, true, false, false] rfl rfl (one_of HT_.out (by kernel_rfl)) (by decide) (fun K hK => ?_)
            refine goes_ Try.func22 (by kernel_rfl) rfl #[.string ((rd_T36 l0 x29_1).f1), .string ((rd_T36 t127 x29_1).f1)] (by rfl) rfl rfl (by (try simp only [List.map_toArray, List.map_cons, List.map_nil]); first | done | rfl | (simp only [List.length_drop, List.length_take]; rfl)) ?_
            with_reducible refine (merge_tight.calls k1 ((rd_T36 l0 x29_1).f1) ((rd_T36 t127 x29_1).f1) t138 t139 t140 true _ A24.out).mono ?_
            rintro e w61 ⟨rfl, hb⟩
            have HS2_ := (hb.cell (bl_ _ _ (hHeld.2.2.1))).trans (hHeld.2.2.1)
            have HS3_ := (hb.cell (bl_ _ _ (hHeld.2.2.2))).trans (hHeld.2.2.2)
            refine ⟨_, rfl, ?_⟩
            replace HO_7 := a0_ (Kd.V_below (by exact HO_7.out) hb)
            replace HO_10 := a0_ (Kd.R_below (by exact HO_10.out) hb)
            replace BK126 := a0_ (kB_ (g := gb126) (o := .cells #[.int .i64 0, .int .i64 0, .int .i64 0] 30 (0, 0)) (by exact BK126.out) hb)
            replace BK134 := a0_ (kB_ (g := gb134) (o := .cells #[.int .i64 t131, .int .i64 t132, .int .i64 t133] 30 (0, 0)) (by exact BK134.out) hb)
            replace BK136 := a0_ (kB_ (g := gb136) (o := .cells #[.string ((rd_T36 l0 x29_1).f0), .string ((rd_T36 l0 x29_1).f1)] 36 (0, 0)) (by exact BK136.out) hb)
            replace BK142 := a0_ (kB_ (g := gb142) (o := .cells #[.int .i64 0, .int .i64 0, .string (⟨#[]⟩ : ByteArray)] 58 (0, 0)) (by exact BK142.out) hb)
            replace HB := a0_ (bT_ (by exact HB.out) hb)
            refine hK.out _ _ ⟨(blk_cell BK136.out 0).trans rfl, (blk_cell BK136.out 1).trans rfl, HS2_, HS3_⟩ (fun hHeld => ?_)
            clear hK K
            refine norm_ (a' := ?_) ?_ ?_
            rotate_left
            ·show Act.put _ (some 42) _ = _
             simp only [ps_]
             rfl
            refine pure_ (i := 8) (N := some 34) #[true, true, true, true, true, true, true, true, true, false, false, true, false, false] rfl rfl (any_of HT_.out (by kernel_rfl)) (fun _ _ _ h => h) (Or.inl ⟨by rfl, fun w' => by go_simp; with_reducible rfl⟩) (by simp only [ps_]; rfl) ?_
            refine pure_ (i := 9) (N := some 43) #[true, true, true, true, true, true, true, true, true, true, false, true, false, false] rfl rfl (any_of HT_.out (by kernel_rfl)) (fun _ _ _ h => h) (Or.inl ⟨by rfl, fun w' => by go_simp; with_reducible rfl⟩) (by simp only [ps_]; rfl) ?_
            refine pure_ (i := 10) (N := some 44) #[true, true, true, true, true, true, true, true, true, true, true, true, false, false] rfl rfl (any_of HT_.out (by kernel_rfl)) (fun _ _ _ h => h) (Or.inl ⟨by rfl, fun w' => by go_simp; with_reducible rfl⟩) (by simp only [ps_]; rfl) ?_
            exact norm_ (by simp only [putAll, Act.put, List.setIfInBounds_toArray, List.set_cons_zero, List.set_cons_succ]) (hCont (gb142) _ ⟨hHeld, (by exact HO_10.out), (by exact Kd.V_mono HO_7.out (fun _ hk => ⟨hk.1.1, ⟨hk.1.2.1, ⟨hk.1.2.2.1, ⟨hk.1.2.2.2, hk.2⟩⟩⟩⟩)), (by exact BK126.out), (by exact BK134.out), (by exact BK136.out), (by exact BK142.out), GW142.out, GE142.out, NB126_142.out, NB142_126.out, NB134_142.out, NB142_134.out, NB136_142.out, NB142_136.out, (by exact HB.out)⟩)
          rintro gb142 w62 ⟨hS_, h0_, h1_, h2_, h3_, h4_, h5_, h6_, h7_, h8_, h9_, h10_, h11_, h12_, h13_, h14_⟩
          have n0_ : Aside0 (Kd.R k34 34 w62 w.heap.size (fun _ => True) u10 x10_1) := ⟨h0_⟩
          have n1_ : Aside0 (Kd.V k36 36 w62 w.heap.size (fun k_ => some k_ ≠ (u10 : Value).ownBlock ∧ k_ ≠ gb126 ∧ k_ ≠ gb134 ∧ k_ ≠ gb136 ∧ k_ ≠ gb142) (.slice (some ad137) t127.length co59) t127) := ⟨h1_⟩
          have n2_ : Aside0 (w62.heap[gb126]? = some (.cells #[.int .i64 0, .int .i64 0, .int .i64 0] 30 (0, 0))) := ⟨h2_⟩
          have n3_ : Aside0 (w62.heap[gb134]? = some (.cells #[.int .i64 t131, .int .i64 t132, .int .i64 t133] 30 (0, 0))) := ⟨h3_⟩
          have n4_ : Aside0 (w62.heap[gb136]? = some (.cells #[.string ((rd_T36 l0 x29_1).f0), .string ((rd_T36 l0 x29_1).f1)] 36 (0, 0))) := ⟨h4_⟩
          have n5_ : Aside0 (w62.heap[gb142]? = some (.cells #[.int .i64 0, .int .i64 0, .string (⟨#[]⟩ : ByteArray)] 58 (0, 0))) := ⟨h5_⟩
          have n6_ : Aside0 (w.heap.size ≤ gb142) := ⟨h6_⟩
          have n7_ : Aside0 (w.heap.size ≤ gb142) := ⟨h7_⟩
          have n8_ : Aside0 (gb126 ≠ gb142) := ⟨h8_⟩
          have n9_ : Aside0 (gb142 ≠ gb126) := ⟨h9_⟩
          have n10_ : Aside0 (gb134 ≠ gb142) := ⟨h10_⟩
          have n11_ : Aside0 (gb142 ≠ gb134) := ⟨h11_⟩
          have n12_ : Aside0 (gb136 ≠ gb142) := ⟨h12_⟩
          have n13_ : Aside0 (gb142 ≠ gb136) := ⟨h13_⟩
          have n14_ : Aside0 (Below w.heap.size w w62) := ⟨h14_⟩
          clear HO_7
          clear HO_10
          clear BK126
          clear BK134
          clear BK136
          clear HB
          clear h0_ h1_ h2_ h3_ h4_ h5_ h6_ h7_ h8_ h9_ h10_ h11_ h12_ h13_ h14_
          have HO_10 := n0_
          have HO_7 := n1_
          have BK126 := n2_
          have BK134 := n3_
          have BK136 := n4_
          have BK142 := n5_
          have GW142 := n6_
          have GE142 := n7_
          have NB126_142 := n8_
          have NB142_126 := n9_
          have NB134_142 := n10_
          have NB142_134 := n11_
          have NB136_142 := n12_
          have NB142_136 := n13_
          have HB := n14_
          clear n0_ n1_ n2_ n3_ n4_ n5_ n6_ n7_ n8_ n9_ n10_ n11_ n12_ n13_ n14_
          have hHeld : w62.cell? ⟨gb136, 0, none⟩ = some (.string ((rd_T36 l0 x29_1).f0)) ∧ w62.cell? ⟨gb136, 1, none⟩ = some (.string ((rd_T36 l0 x29_1).f1)) ∧ w62.cell? (ad137.add ((x29_1).toNat * 2)) = some (.string ((rd_T36 t127 x29_1).f0)) ∧ w62.cell? ⟨(ad137.add ((x29_1).toNat * 2)).block, (ad137.add ((x29_1).toNat * 2)).off + 1, none⟩ = some (.string ((rd_T36 t127 x29_1).f1)) := hS_
          refine norm_ (a' := ?_) ?_ ?_
          rotate_left
          ·simp only [putAll, Act.put, List.setIfInBounds_toArray, List.set_cons_zero, List.set_cons_succ]
           rfl
          refine one_ (i := 12) (N := none) #[true, true, true, true, true, true, true, true, true, true, true, true, true, false] rfl rfl (one_of HT_.out (by kernel_rfl)) (by decide) (fun K hK => ?_)
          have hs63 : w62.cell? ⟨gb142, 0, none⟩ = some (.int .i64 0) := (blk_cell BK142.out 0).trans rfl
          have hfs63 := kF_ BK142.out 0
          have hns63_0 := NB126_142.out
          have hns63_1 := NB134_142.out
          have hns63_2 := NB136_142.out
          have hms63_0 := NB142_126.out
          have hms63_1 := NB142_134.out
          have hms63_2 := NB142_136.out
          have hs64 : w62.cell? ⟨gb142, 1, none⟩ = some (.int .i64 0) := (blk_cell BK142.out 1).trans rfl
          have hfs64 := kF_ BK142.out 1
          have hns64_0 := NB126_142.out
          have hns64_1 := NB134_142.out
          have hns64_2 := NB136_142.out
          have hms64_0 := NB142_126.out
          have hms64_1 := NB142_134.out
          have hms64_2 := NB142_136.out
          have hs65 : w62.cell? ⟨gb142, 2, none⟩ = some (.string (⟨#[]⟩ : ByteArray)) := (blk_cell BK142.out 2).trans rfl
          have hfs65 := kF_ BK142.out 2
          have hns65_0 := NB126_142.out
          have hns65_1 := NB134_142.out
          have hns65_2 := NB136_142.out
          have hms65_0 := NB142_126.out
          have hms65_1 := NB142_134.out
          have hms65_2 := NB142_136.out
          refine skip_ (w1 := ?_) (by rfl) rfl ?_ ?_
          rotate_left
          ·go_simp
           rfl
          refine hK.out _ _ ⟨((cell_far (p := ⟨gb142, _, none⟩) NB136_142.out _).trans (((cell_far (p := ⟨gb142, _, none⟩) NB136_142.out _).trans (((cell_far (p := ⟨gb142, _, none⟩) NB136_142.out _).trans (hHeld.1)))))), ((cell_far (p := ⟨gb142, _, none⟩) NB136_142.out _).trans (((cell_far (p := ⟨gb142, _, none⟩) NB136_142.out _).trans (((cell_far (p := ⟨gb142, _, none⟩) NB136_142.out _).trans (hHeld.2.1)))))), ((cell_far (p := ⟨gb142, _, none⟩) (by first | exact ab_ (VAway.away36 HO_7.out x29_1 (of_eq_true p137) (of_eq_true q137) (fun _ hk => hk.2.2.2.2)) | exact (VAway.away36 HO_7.out x29_1 (of_eq_true p137) (of_eq_true q137) (fun _ hk => hk.2.2.2.2))) _).trans (((cell_far (p := ⟨gb142, _, none⟩) (by first | exact ab_ (VAway.away36 HO_7.out x29_1 (of_eq_true p137) (of_eq_true q137) (fun _ hk => hk.2.2.2.2)) | exact (VAway.away36 HO_7.out x29_1 (of_eq_true p137) (of_eq_true q137) (fun _ hk => hk.2.2.2.2))) _).trans (((cell_far (p := ⟨gb142, _, none⟩) (by first | exact ab_ (VAway.away36 HO_7.out x29_1 (of_eq_true p137) (of_eq_true q137) (fun _ hk => hk.2.2.2.2)) | exact (VAway.away36 HO_7.out x29_1 (of_eq_true p137) (of_eq_true q137) (fun _ hk => hk.2.2.2.2))) _).trans (hHeld.2.2.1)))))), ((cell_far (p := ⟨gb142, _, none⟩) (by first | exact ab_ (VAway.away36 HO_7.out x29_1 (of_eq_true p137) (of_eq_true q137) (fun _ hk => hk.2.2.2.2)) | exact (VAway.away36 HO_7.out x29_1 (of_eq_true p137) (of_eq_true q137) (fun _ hk => hk.2.2.2.2))) _).trans (((cell_far (p := ⟨gb142, _, none⟩) (by first | exact ab_ (VAway.away36 HO_7.out x29_1 (of_eq_true p137) (of_eq_true q137) (fun _ hk => hk.2.2.2.2)) | exact (VAway.away36 HO_7.out x29_1 (of_eq_true p137) (of_eq_true q137) (fun _ hk => hk.2.2.2.2))) _).trans (((cell_far (p := ⟨gb142, _, none⟩) (by first | exact ab_ (VAway.away36 HO_7.out x29_1 (of_eq_true p137) (of_eq_true q137) (fun _ hk => hk.2.2.2.2)) | exact (VAway.away36 HO_7.out x29_1 (of_eq_true p137) (of_eq_true q137) (fun _ hk => hk.2.2.2.2))) _).trans (hHeld.2.2.2))))))⟩ (fun hHeld => ?_)
          clear hK K
          refine pure_ (i := 13) (N := some 14) #[true, true, true, true, true, true, true, true, true, true, true, true, true, true] rfl rfl (any_of HT_.out (by kernel_rfl)) (fun _ _ _ h => h) (Or.inl ⟨by rfl, fun w' => by go_simp; with_reducible rfl⟩) (by simp only [ps_]; rfl) ?_
          refine done_ (done_of HT_.out (by kernel_rfl)) ?_
          have hnb66 := NB136_142.out
          have hnc66 := NB142_136.out
          have hcz67_0 : w62.cell? ⟨gb136, 0, none⟩ = some (.string ((rd_T36 l0 x29_1).f0)) := (blk_cell BK136.out 0).trans rfl
          have hcz67_1 : w62.cell? ⟨gb136, 1, none⟩ = some (.string ((rd_T36 l0 x29_1).f1)) := (blk_cell BK136.out 1).trans rfl
          have hfz67_0 := kF_ BK136.out 0
          have hfz67_1 := kF_ BK136.out 1
          have hnb68 := NB142_126.out
          have hnc68 := NB126_142.out
          have hnb69 := NB142_134.out
          have hnc69 := NB134_142.out
          have hcz70_0 : w62.cell? ⟨gb142, 0, none⟩ = some (.int .i64 0) := (blk_cell BK142.out 0).trans rfl
          have hcz70_1 : w62.cell? ⟨gb142, 1, none⟩ = some (.int .i64 0) := (blk_cell BK142.out 1).trans rfl
          have hcz70_2 : w62.cell? ⟨gb142, 2, none⟩ = some (.string (⟨#[]⟩ : ByteArray)) := (blk_cell BK142.out 2).trans rfl
          have hfz70_0 := kF_ BK142.out 0
          have hfz70_1 := kF_ BK142.out 1
          have hfz70_2 := kF_ BK142.out 2
          try go_wp2_with (first | ((with_reducible refine gate_dst (N := 51) rfl ?_); (try (refine gate_guard (by rfl) ?_; dsimp only)); refine Kd.R_lit k58 _ 58 ?hg (N := 51) ?hd (xs := ([(⟨t138, t139, t140⟩ : S58)] : List (S58))) (inner := [.int .i64 t138, .int .i64 t139, .string t140]) (ok := fun _ => True) (okp := fun _ => True) ?hr ?hp (fun _ hk => hk) trivial (Below.refl _ _) (Nat.le_refl _) (by simp) ?_; (case hd => rfl); (case hg => rfl); (case hr => first | (go_simp; done) | (go_simp; rfl)); (case hp => exact (Reps.c3 (show Kd.M k58 _ _ _ (⟨t138, t139, t140⟩ : S58) [.int .i64 t138, .int .i64 t139, .string t140] from (k58_mkM _ _ _ (⟨t138, t139, t140⟩ : S58) )) (Reps.none _ _))); intro v144 w71 ho72 hb hg_ hnew_; clear hg_ hnew_; (first | rw [← Ny143.out] at ho72 | (simp only [Int.reduceToNat] at ho72; rw [← Ny143.out] at ho72)); replace HO_7 := a0_ (Kd.V_elder' (by (with_reducible repeat (first | apply Kd.V_alloc | apply Kd.V_drewN | apply Kd.V_drew)); exact (Kd.V_mono (Kd.V_far (p := ⟨gb142, 2, none⟩) (Kd.V_far (p := ⟨gb142, 1, none⟩) (Kd.V_far (p := ⟨gb142, 0, none⟩) (Kd.V_mono HO_7.out (fun k_ hk => (⟨hk, hk.2.2.2.2⟩ : _ ∧ k_ ≠ gb142))) (fun _ hk => hk.2) (.int .i64 t138)) (fun _ hk => hk.2) (.int .i64 t139)) (fun _ hk => hk.2) (.string t140)) (fun _ h_ => h_.1))) (Kd.R_base ho72) hb); replace HO_10 := a0_ (Kd.R_below (by (with_reducible repeat (first | apply Kd.R_alloc | apply Kd.R_drewN | apply Kd.R_drew)); exact (Kd.R_mono (Kd.R_far (p := ⟨gb142, 2, none⟩) (Kd.R_far (p := ⟨gb142, 1, none⟩) (Kd.R_far (p := ⟨gb142, 0, none⟩) (Kd.R_types HO_10.out BK142.out (by decide)) (fun _ hk => hk.2) (.int .i64 t138)) (fun _ hk => hk.2) (.int .i64 t139)) (fun _ hk => hk.2) (.string t140)) (fun _ h_ => h_.1))) hb); have HO145 := a0_ (Kd.R_lower (Kd.R_newB ho72 (g := gb142) (o := .cells #[.int .i64 t138, .int .i64 t139, .string t140] 58 (0, 0)) (by refine blk_put (cs := #[.int .i64 t138, .int .i64 t139, .string (⟨#[]⟩ : ByteArray)]) ?_ 2 _ rfl; refine blk_put (cs := #[.int .i64 t138, .int .i64 0, .string (⟨#[]⟩ : ByteArray)]) ?_ 1 _ rfl; refine blk_put (cs := #[.int .i64 0, .int .i64 0, .string (⟨#[]⟩ : ByteArray)]) ?_ 0 _ rfl; exact BK142.out)) (bZ_ (by repeat (first | (with_reducible first | exact HB.out | apply bA_ | apply bN_ | apply bD_ | refine bS_ ?_ GE126.out | refine bS_ ?_ GE134.out | refine bS_ ?_ GE136.out | refine bS_ ?_ GE142.out) | exact HB.out)))); replace BK126 := a0_ (kB_ (g := gb126) (o := .cells #[.int .i64 0, .int .i64 0, .int .i64 0] 30 (0, 0)) (by refine blk_far ?_ NB126_142.out _; refine blk_far ?_ NB126_142.out _; refine blk_far ?_ NB126_142.out _; exact BK126.out) hb); replace BK134 := a0_ (kB_ (g := gb134) (o := .cells #[.int .i64 t131, .int .i64 t132, .int .i64 t133] 30 (0, 0)) (by refine blk_far ?_ NB134_142.out _; refine blk_far ?_ NB134_142.out _; refine blk_far ?_ NB134_142.out _; exact BK134.out) hb); replace BK136 := a0_ (kB_ (g := gb136) (o := .cells #[.string ((rd_T36 l0 x29_1).f0), .string ((rd_T36 l0 x29_1).f1)] 36 (0, 0)) (by refine blk_far ?_ NB136_142.out _; refine blk_far ?_ NB136_142.out _; refine blk_far ?_ NB136_142.out _; exact BK136.out) hb); replace BK142 := a0_ (kB_ (g := gb142) (o := .cells #[.int .i64 t138, .int .i64 t139, .string t140] 58 (0, 0)) (by refine blk_put (cs := #[.int .i64 t138, .int .i64 t139, .string (⟨#[]⟩ : ByteArray)]) ?_ 2 _ rfl; refine blk_put (cs := #[.int .i64 t138, .int .i64 0, .string (⟨#[]⟩ : ByteArray)]) ?_ 1 _ rfl; refine blk_put (cs := #[.int .i64 0, .int .i64 0, .string (⟨#[]⟩ : ByteArray)]) ?_ 0 _ rfl; exact BK142.out) hb); replace HB := a0_ (bT_ (by repeat (first | (with_reducible first | exact HB.out | apply bA_ | apply bN_ | apply bD_ | refine bS_ ?_ GE126.out | refine bS_ ?_ GE134.out | refine bS_ ?_ GE136.out | refine bS_ ?_ GE142.out) | exact HB.out)) hb); clear hb ho72; obtain ⟨Ao73, co73, eo73⟩ := Kd.R_slice HO145.out; subst eo73) | (go_at_call 23; (with_reducible refine (edit_Check.calls k1 (((rd_T36 l0 x29_1).f1).size : Int) _ _ y143 t146 _ ?side1 ?side2 A26.out).mono ?_); (case side1 => repeat (first | exact (Kd.R_reads' HO145.out).2.2 | (with_reducible refine Kd.C_alloc ?_ _) | (with_reducible refine Kd.C_drewN ?_ _) | (with_reducible refine Kd.C_drew ?_))); (case side2 => exact (Kd.R_reads' HO145.out).2.1); rintro e w74 ⟨rfl, hb⟩; replace HO_7 := a0_ (Kd.V_below (by exact HO_7.out) hb); replace HO_10 := a0_ (Kd.R_below (by exact HO_10.out) hb); replace HO145 := a0_ (Kd.R_below (by exact HO145.out) hb); replace BK126 := a0_ (kB_ (g := gb126) (o := .cells #[.int .i64 0, .int .i64 0, .int .i64 0] 30 (0, 0)) (by exact BK126.out) hb); replace BK134 := a0_ (kB_ (g := gb134) (o := .cells #[.int .i64 t131, .int .i64 t132, .int .i64 t133] 30 (0, 0)) (by exact BK134.out) hb); replace BK136 := a0_ (kB_ (g := gb136) (o := .cells #[.string ((rd_T36 l0 x29_1).f0), .string ((rd_T36 l0 x29_1).f1)] 36 (0, 0)) (by exact BK136.out) hb); replace BK142 := a0_ (kB_ (g := gb142) (o := .cells #[.int .i64 t138, .int .i64 t139, .string t140] 58 (0, 0)) (by exact BK142.out) hb); replace HB := a0_ (bT_ (by exact HB.out) hb); (try clear hb); (try clear hb2); (try clear hk); (try clear hi)))
          go_roundg k1
          case measure => have := HK1.out; omega
          case rel => exact ⟨(x10_1), (wrap64 (x29_1 + 1)), (by first | rfl | (simp; done) | (simp [*]; done)), H', ⟨by have := HK1.out; omega⟩, ⟨by exact Kd.V_mono HO_7.out (fun _ hk => ⟨hk.1.1, ⟨hk.1.2.1, hk.1.2.2.1⟩⟩)⟩, ⟨by exact HO_10.out⟩, ⟨by exact BK126.out⟩, ⟨by exact BK134.out⟩, ⟨by exact HB.out⟩⟩
        ·replace c25 := Bool.eq_false_iff.mpr c25
         subst c25
         have H1 : (merge_Net.l0 k1 t127 x10_1 l0 (l0.length : Int) (wrap64 (x29_1 + 1))) = some (r1, r2, r3, r4, r5) := by rw [if_neg (show ¬ (false = true) by decide)] at H; exact H
         clear H
         have H := H1
         clear H1
         have H' := a0_ H
         clear H
         have p135 : 0 ≤ (x29_1 : Int) := od_ (by assumption)
         have q135 : x29_1 < (l0.length : Int) := od_ (by assumption)
         obtain ⟨ad135, e135, hx135_0, hx135_1⟩ := at_T36 HR0.out x29_1 p135 q135
         cases e135
         replace hx135_0 := (HB.out.cell (bl_ w _ hx135_0)).trans hx135_0
         replace hx135_1 := (HB.out.cell (bl_ w _ hx135_1)).trans hx135_1
         replace p135 := eq_true p135
         replace q135 := eq_true q135
         try go_wp2_with (first | ((with_reducible refine gate_dst (N := 12) rfl ?_); (try (refine gate_guard (by rfl) ?_; dsimp only)); refine box_event ?hg (N := 12) ?hd (cs := #[.string (⟨#[]⟩ : ByteArray), .string (⟨#[]⟩ : ByteArray)]) (t := 36) ?hr ?_; (case hd => rfl); (case hg => rfl); (case hr => first | (go_simp; done) | (go_simp; rfl)); intro gb136 hg w75 hbox hb; replace HO_7 := a0_ (Kd.V_below (Kd.V_elderB (by exact HO_7.out) gb136 (Nat.le_of_eq hg.symm)) hb); replace HO_10 := a0_ (Kd.R_below (by exact HO_10.out) hb); have BK136 := a0_ (hbox); have GW136 := a0_ ((by rw [hg]; exact (bZ_ (by exact HB.out)) : w.heap.size ≤ gb136)); have GE136 := a0_ ((by rw [hg]; exact (bZ_ (by exact HB.out)) : w.heap.size ≤ gb136)); replace HB := a0_ (bT_ (by exact HB.out) hb); have NB126_136 := a0_ ((by rw [hg]; exact Nat.ne_of_lt (blk_lt (g := gb126) (o := .cells #[.int .i64 0, .int .i64 0, .int .i64 0] 30 (0, 0)) (by exact BK126.out)) : gb126 ≠ gb136)); have NB136_126 := a0_ ((by rw [hg]; exact Nat.ne_of_gt (blk_lt (g := gb126) (o := .cells #[.int .i64 0, .int .i64 0, .int .i64 0] 30 (0, 0)) (by exact BK126.out)) : gb136 ≠ gb126)); replace BK126 := a0_ (kB_ (g := gb126) (o := .cells #[.int .i64 0, .int .i64 0, .int .i64 0] 30 (0, 0)) (by exact BK126.out) hb); have NB134_136 := a0_ ((by rw [hg]; exact Nat.ne_of_lt (blk_lt (g := gb134) (o := .cells #[.int .i64 t131, .int .i64 t132, .int .i64 t133] 30 (0, 0)) (by exact BK134.out)) : gb134 ≠ gb136)); have NB136_134 := a0_ ((by rw [hg]; exact Nat.ne_of_gt (blk_lt (g := gb134) (o := .cells #[.int .i64 t131, .int .i64 t132, .int .i64 t133] 30 (0, 0)) (by exact BK134.out)) : gb136 ≠ gb134)); replace BK134 := a0_ (kB_ (g := gb134) (o := .cells #[.int .i64 t131, .int .i64 t132, .int .i64 t133] 30 (0, 0)) (by exact BK134.out) hb); clear hb hbox hg; have hnb76 := NB136_126.out; have hnc76 := NB126_136.out; have hnb77 := NB136_134.out; have hnc77 := NB134_136.out; have hcz78_0 : w75.cell? ⟨gb136, 0, none⟩ = some (.string (⟨#[]⟩ : ByteArray)) := (blk_cell BK136.out 0).trans rfl; have hcz78_1 : w75.cell? ⟨gb136, 1, none⟩ = some (.string (⟨#[]⟩ : ByteArray)) := (blk_cell BK136.out 1).trans rfl; have hfz78_0 := kF_ BK136.out 0; have hfz78_1 := kF_ BK136.out 1))
         replace HO_7 : Aside0 (Kd.V k36 36 ((w75.setCell ⟨gb136, 0, none⟩ (.string ((rd_T36 l0 x29_1).f0))).setCell ⟨gb136, 1, none⟩ (.string ((rd_T36 l0 x29_1).f1))) w.heap.size (fun k_ => some k_ ≠ (u10 : Value).ownBlock ∧ k_ ≠ gb126 ∧ k_ ≠ gb134 ∧ k_ ≠ gb136) v128 t127) := ⟨by exact Kd.V_mono (Kd.V_far (p := ⟨gb136, 1, none⟩) (Kd.V_far (p := ⟨gb136, 0, none⟩) (Kd.V_mono HO_7.out (fun k_ hk => (⟨hk, hk.2⟩ : _ ∧ k_ ≠ gb136))) (fun _ hk => hk.2) (.string ((rd_T36 l0 x29_1).f0))) (fun _ hk => hk.2) (.string ((rd_T36 l0 x29_1).f1))) (fun _ hk => ⟨hk.1.1.1, ⟨hk.1.1.2.1, ⟨hk.1.1.2.2, hk.1.2⟩⟩⟩)⟩
         replace HO_10 : Aside0 (Kd.R k34 34 ((w75.setCell ⟨gb136, 0, none⟩ (.string ((rd_T36 l0 x29_1).f0))).setCell ⟨gb136, 1, none⟩ (.string ((rd_T36 l0 x29_1).f1))) w.heap.size (fun _ => True) u10 x10_1) := ⟨by exact Kd.R_mono (Kd.R_far (p := ⟨gb136, 1, none⟩) (Kd.R_far (p := ⟨gb136, 0, none⟩) (Kd.R_types HO_10.out BK136.out (by decide)) (fun _ hk => hk.2) (.string ((rd_T36 l0 x29_1).f0))) (fun _ hk => hk.2) (.string ((rd_T36 l0 x29_1).f1))) (fun _ hk => trivial)⟩
         replace BK126 : Aside0 (((w75.setCell ⟨gb136, 0, none⟩ (.string ((rd_T36 l0 x29_1).f0))).setCell ⟨gb136, 1, none⟩ (.string ((rd_T36 l0 x29_1).f1))).heap[gb126]? = some (.cells #[.int .i64 0, .int .i64 0, .int .i64 0] 30 (0, 0))) := ⟨by refine blk_far ?_ NB126_136.out _; refine blk_far ?_ NB126_136.out _; exact BK126.out⟩
         replace BK134 : Aside0 (((w75.setCell ⟨gb136, 0, none⟩ (.string ((rd_T36 l0 x29_1).f0))).setCell ⟨gb136, 1, none⟩ (.string ((rd_T36 l0 x29_1).f1))).heap[gb134]? = some (.cells #[.int .i64 t131, .int .i64 t132, .int .i64 t133] 30 (0, 0))) := ⟨by refine blk_far ?_ NB134_136.out _; refine blk_far ?_ NB134_136.out _; exact BK134.out⟩
         replace BK136 : Aside0 (((w75.setCell ⟨gb136, 0, none⟩ (.string ((rd_T36 l0 x29_1).f0))).setCell ⟨gb136, 1, none⟩ (.string ((rd_T36 l0 x29_1).f1))).heap[gb136]? = some (.cells #[.string ((rd_T36 l0 x29_1).f0), .string ((rd_T36 l0 x29_1).f1)] 36 (0, 0))) := ⟨by refine blk_put (cs := #[.string ((rd_T36 l0 x29_1).f0), .string (⟨#[]⟩ : ByteArray)]) ?_ 1 _ rfl; refine blk_put (cs := #[.string (⟨#[]⟩ : ByteArray), .string (⟨#[]⟩ : ByteArray)]) ?_ 0 _ rfl; exact BK136.out⟩
         replace HB : Aside0 (Below w.heap.size w ((w75.setCell ⟨gb136, 0, none⟩ (.string ((rd_T36 l0 x29_1).f0))).setCell ⟨gb136, 1, none⟩ (.string ((rd_T36 l0 x29_1).f1)))) := ⟨by repeat (first | (with_reducible first | exact HB.out | apply bA_ | apply bN_ | apply bD_ | refine bS_ ?_ GE126.out | refine bS_ ?_ GE134.out | refine bS_ ?_ GE136.out) | exact HB.out)⟩
         generalize ((w75.setCell ⟨gb136, 0, none⟩ (.string ((rd_T36 l0 x29_1).f0))).setCell ⟨gb136, 1, none⟩ (.string ((rd_T36 l0 x29_1).f1))) = w79 at HO_7 HO_10 BK126 BK134 BK136 HB ⊢
         replace HO_7 := a0_ (Kd.V_drew HO_7.out)
         replace HO_10 := a0_ (Kd.R_drew HO_10.out)
         replace BK126 := a0_ (kD_ BK126.out)
         replace BK134 := a0_ (kD_ BK134.out)
         replace BK136 := a0_ (kD_ BK136.out)
         replace HB := a0_ (bD_ HB.out)
         obtain ⟨Ao81, co81, eo81⟩ := Kd.V_slice HO_7.out
         (first | subst eo81 | (injection eo81 with f1_ f2_ f3_; have f4_ := f1_.symm; have f5_ := f3_.symm; clear f1_ f2_ f3_; subst f4_; subst f5_))
         have p137 : 0 ≤ (x29_1 : Int) := od_ (by assumption)
         have q137 : x29_1 < (t127.length : Int) := od_ (by assumption)
         obtain ⟨ad137, e137, hx137_0, hx137_1⟩ := at_T36 (Kd.V_reads' HO_7.out).2.2 x29_1 p137 q137
         cases e137
         replace p137 := eq_true p137
         replace q137 := eq_true q137
         refine start_ (n := 14) (S := fun w' => w'.cell? ⟨gb136, 0, none⟩ = some (.string ((rd_T36 l0 x29_1).f0)) ∧ w'.cell? ⟨gb136, 1, none⟩ = some (.string ((rd_T36 l0 x29_1).f1)) ∧ w'.cell? (ad137.add ((x29_1).toNat * 2)) = some (.string ((rd_T36 t127 x29_1).f0)) ∧ w'.cell? ⟨(ad137.add ((x29_1).toNat * 2)).block, (ad137.add ((x29_1).toNat * 2)).off + 1, none⟩ = some (.string ((rd_T36 t127 x29_1).f1))) (ds := []) #[false, false, false, false, false, false, false, false, false, false, false, false, false, false] (by kernel_rfl) rfl rfl ⟨(blk_cell BK136.out 0).trans rfl, (blk_cell BK136.out 1).trans rfl, hx137_0, hx137_1⟩ (fun hHeld => ?_); refine with_tabW merge_Net.tab8 merge_Net.bits8 (fun HT_ HW_ => ?_)
         generalize w79.drew = w80 at HO_7 HO_10 BK126 BK134 BK136 HB hx137_0 hx137_1 hHeld ⊢
         refine pure_ (i := 0) (N := some 35) #[true, false, false, false, false, false, false, false, false, false, false, false, false, false] rfl rfl (any_of HT_.out (by kernel_rfl)) (fun _ _ _ h => h) (Or.inl ⟨by rfl, fun w' => by go_simp; with_reducible rfl⟩) (by simp only [ps_]; rfl) ?_
         refine pure_ (i := 2) (N := some 37) #[true, false, true, false, false, false, false, false, false, false, false, false, false, false] rfl rfl (any_of HT_.out (by kernel_rfl)) (fun _ _ _ h => h) (Or.inl ⟨by rfl, fun w' => by go_simp; with_reducible rfl⟩) (by simp only [ps_]; rfl) ?_
         refine pure_ (i := 3) (N := some 38) #[true, false, true, true, false, false, false, false, false, false, false, false, false, false] rfl rfl (any_of HT_.out (by kernel_rfl)) (fun _ _ _ h => h) (Or.inl ⟨by rfl, fun w' => by go_simp; with_reducible rfl⟩) (by simp only [ps_]; rfl) ?_
         refine pure_ (i := 4) (N := some 39) #[true, false, true, true, true, false, false, false, false, false, false, false, false, false] rfl rfl (any_of HT_.out (by kernel_rfl)) (fun _ _ _ h => h) (Or.inl ⟨by rfl, fun w' => by go_simp; with_reducible rfl⟩) (by simp only [ps_]; rfl) ?_
         refine pure_ (i := 5) (N := some 40) #[true, false, true, true, true, true, false, false, false, false, false, false, false, false] rfl rfl (any_of HT_.out (by kernel_rfl)) (fun _ _ _ h => h) (Or.inl ⟨by rfl, fun w' => by go_simp; with_reducible rfl⟩) (by simp only [ps_]; rfl) ?_
         refine take_ (i := 1) (N := some 36) (v := ?_) (a' := ?_) #[true, true, true, true, true, true, false, false, false, false, false, false, false, false] rfl rfl (take_ofW HT_.out HW_.out (by kernel_rfl)) (fun _ _ _ h => h) (Or.inl ⟨by rfl, ?_⟩) hHeld ?_ ?_
         rotate_left
         ·rintro w' ⟨s0, s1, s2, s3⟩
          go_simp
          with_reducible rfl
         rotate_left
         ·simp only [ps_]
          rfl
         refine take_ (i := 6) (N := some 41) (v := ?_) (a' := ?_) #[true, true, true, true, true, true, true, false, false, false, false, false, false, false] rfl rfl (take_ofW HT_.out HW_.out (by kernel_rfl)) (fun _ _ _ h => h) (Or.inl ⟨by rfl, ?_⟩) hHeld ?_ ?_
         rotate_left
         ·rintro w' ⟨s0, s1, s2, s3⟩
          go_simp
          with_reducible rfl
         rotate_left
         ·simp only [ps_]
          rfl
         refine join_ (σ := Nat) 2 #[true, true, true, true, true, true, true, true, true, true, true, true, false, false] (fun s_ => [(42, .tuple #[.agg #[.int .i64 t138, .int .i64 t139, .string t140], .bool false]), (13, .pointer (some ⟨s_, 0, none⟩)), (34, .tuple #[.agg #[.int .i64 t138, .int .i64 t139, .string t140], .bool false]), (43, .agg #[.int .i64 t138, .int .i64 t139, .string t140]), (44, .bool false)]) (fun s_ w' => (w'.cell? ⟨gb136, 0, none⟩ = some (.string ((rd_T36 l0 x29_1).f0)) ∧ w'.cell? ⟨gb136, 1, none⟩ = some (.string ((rd_T36 l0 x29_1).f1)) ∧ w'.cell? (ad137.add ((x29_1).toNat * 2)) = some (.string ((rd_T36 t127 x29_1).f0)) ∧ w'.cell? ⟨(ad137.add ((x29_1).toNat * 2)).block, (ad137.add ((x29_1).toNat * 2)).off + 1, none⟩ = some (.string ((rd_T36 t127 x29_1).f1))) ∧ (Kd.R k34 34 w' w.heap.size (fun _ => True) u10 x10_1) ∧ (Kd.V k36 36 w' w.heap.size (fun k_ => some k_ ≠ (u10 : Value).ownBlock ∧ k_ ≠ gb126 ∧ k_ ≠ gb134 ∧ k_ ≠ gb136 ∧ k_ ≠ s_) (.slice (some ad137) t127.length co81) t127) ∧ (w'.heap[gb126]? = some (.cells #[.int .i64 0, .int .i64 0, .int .i64 0] 30 (0, 0))) ∧ (w'.heap[gb134]? = some (.cells #[.int .i64 t131, .int .i64 t132, .int .i64 t133] 30 (0, 0))) ∧ (w'.heap[gb136]? = some (.cells #[.string ((rd_T36 l0 x29_1).f0), .string ((rd_T36 l0 x29_1).f1)] 36 (0, 0))) ∧ (w'.heap[s_]? = some (.cells #[.int .i64 0, .int .i64 0, .string (⟨#[]⟩ : ByteArray)] 58 (0, 0))) ∧ (w.heap.size ≤ s_) ∧ (w.heap.size ≤ s_) ∧ (gb126 ≠ s_) ∧ (s_ ≠ gb126) ∧ (gb134 ≠ s_) ∧ (s_ ≠ gb134) ∧ (gb136 ≠ s_) ∧ (s_ ≠ gb136) ∧ (Below w.heap.size w w')) ?_ ?_
         rotate_left
         ·intro hCont
          refine two_ (i := 7) (j := 11) (Ni := some 42) (Nj := some 13) #[true, true, true, true, true, true, true, true, false, false, false, false, false, false] #[true, true, true, true, true, true, true, false, false, false, false, true, false, false] rfl rfl rfl rfl (two_of HT_.out (by kernel_rfl)) (by decide) (by decide) (fun K hK => ?_) (fun K hK => ?_)
          ·skip
           refine goes_ Try.func22 (by kernel_rfl) rfl #[.string ((rd_T36 l0 x29_1).f1), .string ((rd_T36 t127 x29_1).f1)] (by rfl) rfl rfl (by (try simp only [List.map_toArray, List.map_cons, List.map_nil]); first | done | rfl | (simp only [List.length_drop, List.length_take]; rfl)) ?_
           with_reducible refine (merge_tight.calls k1 ((rd_T36 l0 x29_1).f1) ((rd_T36 t127 x29_1).f1) t138 t139 t140 false _ A24.out).mono ?_
           rintro e w82 ⟨rfl, hb⟩
           have HS2_ := (hb.cell (bl_ _ _ (hHeld.2.2.1))).trans (hHeld.2.2.1)
           have HS3_ := (hb.cell (bl_ _ _ (hHeld.2.2.2))).trans (hHeld.2.2.2)
           refine ⟨_, rfl, ?_⟩
           replace HO_7 := a0_ (Kd.V_below (by exact HO_7.out) hb)
           replace HO_10 := a0_ (Kd.R_below (by exact HO_10.out) hb)
           replace BK126 := a0_ (kB_ (g := gb126) (o := .cells #[.int .i64 0, .int .i64 0, .int .i64 0] 30 (0, 0)) (by exact BK126.out) hb)
           replace BK134 := a0_ (kB_ (g := gb134) (o := .cells #[.int .i64 t131, .int .i64 t132, .int .i64 t133] 30 (0, 0)) (by exact BK134.out) hb)
           replace BK136 := a0_ (kB_ (g := gb136) (o := .cells #[.string ((rd_T36 l0 x29_1).f0), .string ((rd_T36 l0 x29_1).f1)] 36 (0, 0)) (by exact BK136.out) hb)
           replace HB := a0_ (bT_ (by exact HB.out) hb)
           refine hK.out _ _ ⟨(blk_cell BK136.out 0).trans rfl, (blk_cell BK136.out 1).trans rfl, HS2_, HS3_⟩ (fun hHeld => ?_)
           clear hK K
           refine norm_ (a' := ?_) ?_ ?_
           rotate_left
           ·show Act.put _ (some 42) _ = _
            simp only [ps_]
            rfl
           refine pure_ (i := 8) (N := some 34) #[true, true, true, true, true, true, true, true, true, false, false, false, false, false] rfl rfl (any_of HT_.out (by kernel_rfl)) (fun _ _ _ h => h) (Or.inl ⟨by rfl, fun w' => by go_simp; with_reducible rfl⟩) (by simp only [ps_]; rfl) ?_
           refine pure_ (i := 9) (N := some 43) #[true, true, true, true, true, true, true, true, true, true, false, false, false, false] rfl rfl (any_of HT_.out (by kernel_rfl)) (fun _ _ _ h => h) (Or.inl ⟨by rfl, fun w' => by go_simp; with_reducible rfl⟩) (by simp only [ps_]; rfl) ?_
           refine pure_ (i := 10) (N := some 44) #[true, true, true, true, true, true, true, true, true, true, true, false, false, false] rfl rfl (any_of HT_.out (by kernel_rfl)) (fun _ _ _ h => h) (Or.inl ⟨by rfl, fun w' => by go_simp; with_reducible rfl⟩) (by simp only [ps_]; rfl) ?_
           refine one_ (i := 11) (N := some 13) #[true, true, true, true, true, true, true, true, true, true, true, true, false, false] rfl rfl (one_of HT_.out (by kernel_rfl)) (by decide) (fun K hK => ?_)
           refine box_step ?hg (N := 13) ?hd (cs := #[.int .i64 0, .int .i64 0, .string (⟨#[]⟩ : ByteArray)]) (t := 58) ?hr ?_; (case hd => rfl); (case hg => rfl); (case hr => first | (go_simp; done) | (go_simp; rfl))
           intro gb142 hg w83 hbox hb
           have HS2_ := (hb.cell (bl_ _ _ (hHeld.2.2.1))).trans (hHeld.2.2.1)
           have HS3_ := (hb.cell (bl_ _ _ (hHeld.2.2.2))).trans (hHeld.2.2.2)
           replace HO_7 := a0_ (Kd.V_below (Kd.V_elderB (by exact HO_7.out) gb142 (Nat.le_of_eq hg.symm)) hb)
           replace HO_10 := a0_ (Kd.R_below (by exact HO_10.out) hb)
           have BK142 := a0_ (hbox)
           have GW142 := a0_ ((by rw [hg]; exact (bZ_ (by exact HB.out)) : w.heap.size ≤ gb142))
           have GE142 := a0_ ((by rw [hg]; exact (bZ_ (by exact HB.out)) : w.heap.size ≤ gb142))
           replace HB := a0_ (bT_ (by exact HB.out) hb)
           have NB126_142 := a0_ ((by rw [hg]; exact Nat.ne_of_lt (blk_lt (g := gb126) (o := .cells #[.int .i64 0, .int .i64 0, .int .i64 0] 30 (0, 0)) (by exact BK126.out)) : gb126 ≠ gb142))
           have NB142_126 := a0_ ((by rw [hg]; exact Nat.ne_of_gt (blk_lt (g := gb126) (o := .cells #[.int .i64 0, .int .i64 0, .int .i64 0] 30 (0, 0)) (by exact BK126.out)) : gb142 ≠ gb126))
           replace BK126 := a0_ (kB_ (g := gb126) (o := .cells #[.int .i64 0, .int .i64 0, .int .i64 0] 30 (0, 0)) (by exact BK126.out) hb)
           have NB134_142 := a0_ ((by rw [hg]; exact Nat.ne_of_lt (blk_lt (g := gb134) (o := .cells #[.int .i64 t131, .int .i64 t132, .int .i64 t133] 30 (0, 0)) (by exact BK134.out)) : gb134 ≠ gb142))
           have NB142_134 := a0_ ((by rw [hg]; exact Nat.ne_of_gt (blk_lt (g := gb134) (o := .cells #[.int .i64 t131, .int .i64 t132, .int .i64 t133] 30 (0, 0)) (by exact BK134.out)) : gb142 ≠ gb134))
           replace BK134 := a0_ (kB_ (g := gb134) (o := .cells #[.int .i64 t131, .int .i64 t132, .int .i64 t133] 30 (0, 0)) (by exact BK134.out) hb)
           have NB136_142 := a0_ ((by rw [hg]; exact Nat.ne_of_lt (blk_lt (g := gb136) (o := .cells #[.string ((rd_T36 l0 x29_1).f0), .string ((rd_T36 l0 x29_1).f1)] 36 (0, 0)) (by exact BK136.out)) : gb136 ≠ gb142))
           have NB142_136 := a0_ ((by rw [hg]; exact Nat.ne_of_gt (blk_lt (g := gb136) (o := .cells #[.string ((rd_T36 l0 x29_1).f0), .string ((rd_T36 l0 x29_1).f1)] 36 (0, 0)) (by exact BK136.out)) : gb142 ≠ gb136))
           replace BK136 := a0_ (kB_ (g := gb136) (o := .cells #[.string ((rd_T36 l0 x29_1).f0), .string ((rd_T36 l0 x29_1).f1)] 36 (0, 0)) (by exact BK136.out) hb)
           clear hb hbox hg
           refine hK.out _ _ ⟨(blk_cell BK136.out 0).trans rfl, (blk_cell BK136.out 1).trans rfl, HS2_, HS3_⟩ (fun hHeld => ?_)
           clear hK K
           refine norm_ (a' := ?_) ?_ ?_
           rotate_left
           ·show Act.put _ (some 13) _ = _
            simp only [ps_]
            rfl
           exact norm_ (by simp only [putAll, Act.put, List.setIfInBounds_toArray, List.set_cons_zero, List.set_cons_succ]) (hCont (gb142) _ ⟨hHeld, (by exact HO_10.out), (by exact Kd.V_mono HO_7.out (fun _ hk => ⟨hk.1.1, ⟨hk.1.2.1, ⟨hk.1.2.2.1, ⟨hk.1.2.2.2, hk.2⟩⟩⟩⟩)), (by exact BK126.out), (by exact BK134.out), (by exact BK136.out), (by exact BK142.out), GW142.out, GE142.out, NB126_142.out, NB142_126.out, NB134_142.out, NB142_134.out, NB136_142.out, NB142_136.out, (by exact HB.out)⟩)
          ·skip
           refine box_step ?hg (N := 13) ?hd (cs := #[.int .i64 0, .int .i64 0, .string (⟨#[]⟩ : ByteArray)]) (t := 58) ?hr ?_; (case hd => rfl); (case hg => rfl); (case hr => first | (go_simp; done) | (go_simp; rfl))
           intro gb142 hg w82 hbox hb
           have HS2_ := (hb.cell (bl_ _ _ (hHeld.2.2.1))).trans (hHeld.2.2.1)
           have HS3_ := (hb.cell (bl_ _ _ (hHeld.2.2.2))).trans (hHeld.2.2.2)
           replace HO_7 := a0_ (Kd.V_below (Kd.V_elderB (by exact HO_7.out) gb142 (Nat.le_of_eq hg.symm)) hb)
           replace HO_10 := a0_ (Kd.R_below (by exact HO_10.out) hb)
           have BK142 := a0_ (hbox)
           have GW142 := a0_ ((by rw [hg]; exact (bZ_ (by exact HB.out)) : w.heap.size ≤ gb142))
           have GE142 := a0_ ((by rw [hg]; exact (bZ_ (by exact HB.out)) : w.heap.size ≤ gb142))
           replace HB := a0_ (bT_ (by exact HB.out) hb)
           have NB126_142 := a0_ ((by rw [hg]; exact Nat.ne_of_lt (blk_lt (g := gb126) (o := .cells #[.int .i64 0, .int .i64 0, .int .i64 0] 30 (0, 0)) (by exact BK126.out)) : gb126 ≠ gb142))
           have NB142_126 := a0_ ((by rw [hg]; exact Nat.ne_of_gt (blk_lt (g := gb126) (o := .cells #[.int .i64 0, .int .i64 0, .int .i64 0] 30 (0, 0)) (by exact BK126.out)) : gb142 ≠ gb126))
           replace BK126 := a0_ (kB_ (g := gb126) (o := .cells #[.int .i64 0, .int .i64 0, .int .i64 0] 30 (0, 0)) (by exact BK126.out) hb)
           have NB134_142 := a0_ ((by rw [hg]; exact Nat.ne_of_lt (blk_lt (g := gb134) (o := .cells #[.int .i64 t131, .int .i64 t132, .int .i64 t133] 30 (0, 0)) (by exact BK134.out)) : gb134 ≠ gb142))
           have NB142_134 := a0_ ((by rw [hg]; exact Nat.ne_of_gt (blk_lt (g := gb134) (o := .cells #[.int .i64 t131, .int .i64 t132, .int .i64 t133] 30 (0, 0)) (by exact BK134.out)) : gb142 ≠ gb134))
           replace BK134 := a0_ (kB_ (g := gb134) (o := .cells #[.int .i64 t131, .int .i64 t132, .int .i64 t133] 30 (0, 0)) (by exact BK134.out) hb)
           have NB136_142 := a0_ ((by rw [hg]; exact Nat.ne_of_lt (blk_lt (g := gb136) (o := .cells #[.string ((rd_T36 l0 x29_1).f0), .string ((rd_T36 l0 x29_1).f1)] 36 (0, 0)) (by exact BK136.out)) : gb136 ≠ gb142))
           have NB142_136 := a0_ ((by rw [hg]; exact Nat.ne_of_gt (blk_lt (g := gb136) (o := .cells #[.string ((rd_T36 l0 x29_1).f0), .string ((rd_T36 l0 x29_1).f1)] 36 (0, 0)) (by exact BK136.out)) : gb142 ≠ gb136))
           replace BK136 := a0_ (kB_ (g := gb136) (o := .cells #[.string ((rd_T36 l0 x29_1).f0), .string ((rd_T36 l0 x29_1).f1)] 36 (0, 0)) (by exact BK136.out) hb)
           clear hb hbox hg
           refine hK.out _ _ ⟨(blk_cell BK136.out 0).trans rfl, (blk_cell BK136.out 1).trans rfl, HS2_, HS3_⟩ (fun hHeld => ?_)
           clear hK K
           refine norm_ (a' := ?_) ?_ ?_
           rotate_left
           ·show Act.put _ (some 13) _ = _
            simp only [ps_]
            rfl
           refine one_ (i := 7) (N := some 42) #[true, true, true, true, true, true, true, true, false, false, false, true, false, false] rfl rfl (one_of HT_.out (by kernel_rfl)) (by decide) (fun K hK => ?_)
           refine goes_ Try.func22 (by kernel_rfl) rfl #[.string ((rd_T36 l0 x29_1).f1), .string ((rd_T36 t127 x29_1).f1)] (by rfl) rfl rfl (by (try simp only [List.map_toArray, List.map_cons, List.map_nil]); first | done | rfl | (simp only [List.length_drop, List.length_take]; rfl)) ?_
           with_reducible refine (merge_tight.calls k1 ((rd_T36 l0 x29_1).f1) ((rd_T36 t127 x29_1).f1) t138 t139 t140 false _ A24.out).mono ?_
           rintro e w83 ⟨rfl, hb⟩
           have HS2_ := (hb.cell (bl_ _ _ (hHeld.2.2.1))).trans (hHeld.2.2.1)
           have HS3_ := (hb.cell (bl_ _ _ (hHeld.2.2.2))).trans (hHeld.2.2.2)
           refine ⟨_, rfl, ?_⟩
           replace HO_7 := a0_ (Kd.V_below (by exact HO_7.out) hb)
           replace HO_10 := a0_ (Kd.R_below (by exact HO_10.out) hb)
           replace BK126 := a0_ (kB_ (g := gb126) (o := .cells #[.int .i64 0, .int .i64 0, .int .i64 0] 30 (0, 0)) (by exact BK126.out) hb)
           replace BK134 := a0_ (kB_ (g := gb134) (o := .cells #[.int .i64 t131, .int .i64 t132, .int .i64 t133] 30 (0, 0)) (by exact BK134.out) hb)
           replace BK136 := a0_ (kB_ (g := gb136) (o := .cells #[.string ((rd_T36 l0 x29_1).f0), .string ((rd_T36 l0 x29_1).f1)] 36 (0, 0)) (by exact BK136.out) hb)
           replace BK142 := a0_ (kB_ (g := gb142) (o := .cells #[.int .i64 0, .int .i64 0, .string (⟨#[]⟩ : ByteArray)] 58 (0, 0)) (by exact BK142.out) hb)
           replace HB := a0_ (bT_ (by exact HB.out) hb)
           refine hK.out _ _ ⟨(blk_cell BK136.out 0).trans rfl, (blk_cell BK136.out 1).trans rfl, HS2_, HS3_⟩ (fun hHeld => ?_)
           clear hK K
           refine norm_ (a' := ?_) ?_ ?_
           rotate_left
           ·show Act.put _ (some 42) _ = _
            simp only [ps_]
            rfl
           refine pure_ (i := 8) (N := some 34) #[true, true, true, true, true, true, true, true, true, false, false, true, false, false] rfl rfl (any_of HT_.out (by kernel_rfl)) (fun _ _ _ h => h) (Or.inl ⟨by rfl, fun w' => by go_simp; with_reducible rfl⟩) (by simp only [ps_]; rfl) ?_
           refine pure_ (i := 9) (N := some 43) #[true, true, true, true, true, true, true, true, true, true, false, true, false, false] rfl rfl (any_of HT_.out (by kernel_rfl)) (fun _ _ _ h => h) (Or.inl ⟨by rfl, fun w' => by go_simp; with_reducible rfl⟩) (by simp only [ps_]; rfl) ?_
           refine pure_ (i := 10) (N := some 44) #[true, true, true, true, true, true, true, true, true, true, true, true, false, false] rfl rfl (any_of HT_.out (by kernel_rfl)) (fun _ _ _ h => h) (Or.inl ⟨by rfl, fun w' => by go_simp; with_reducible rfl⟩) (by simp only [ps_]; rfl) ?_
           exact norm_ (by simp only [putAll, Act.put, List.setIfInBounds_toArray, List.set_cons_zero, List.set_cons_succ]) (hCont (gb142) _ ⟨hHeld, (by exact HO_10.out), (by exact Kd.V_mono HO_7.out (fun _ hk => ⟨hk.1.1, ⟨hk.1.2.1, ⟨hk.1.2.2.1, ⟨hk.1.2.2.2, hk.2⟩⟩⟩⟩)), (by exact BK126.out), (by exact BK134.out), (by exact BK136.out), (by exact BK142.out), GW142.out, GE142.out, NB126_142.out, NB142_126.out, NB134_142.out, NB142_134.out, NB136_142.out, NB142_136.out, (by exact HB.out)⟩)
         rintro gb142 w84 ⟨hS_, h0_, h1_, h2_, h3_, h4_, h5_, h6_, h7_, h8_, h9_, h10_, h11_, h12_, h13_, h14_⟩
         have n0_ : Aside0 (Kd.R k34 34 w84 w.heap.size (fun _ => True) u10 x10_1) := ⟨h0_⟩
         have n1_ : Aside0 (Kd.V k36 36 w84 w.heap.size (fun k_ => some k_ ≠ (u10 : Value).ownBlock ∧ k_ ≠ gb126 ∧ k_ ≠ gb134 ∧ k_ ≠ gb136 ∧ k_ ≠ gb142) (.slice (some ad137) t127.length co81) t127) := ⟨h1_⟩
         have n2_ : Aside0 (w84.heap[gb126]? = some (.cells #[.int .i64 0, .int .i64 0, .int .i64 0] 30 (0, 0))) := ⟨h2_⟩
         have n3_ : Aside0 (w84.heap[gb134]? = some (.cells #[.int .i64 t131, .int .i64 t132, .int .i64 t133] 30 (0, 0))) := ⟨h3_⟩
         have n4_ : Aside0 (w84.heap[gb136]? = some (.cells #[.string ((rd_T36 l0 x29_1).f0), .string ((rd_T36 l0 x29_1).f1)] 36 (0, 0))) := ⟨h4_⟩
         have n5_ : Aside0 (w84.heap[gb142]? = some (.cells #[.int .i64 0, .int .i64 0, .string (⟨#[]⟩ : ByteArray)] 58 (0, 0))) := ⟨h5_⟩
         have n6_ : Aside0 (w.heap.size ≤ gb142) := ⟨h6_⟩
         have n7_ : Aside0 (w.heap.size ≤ gb142) := ⟨h7_⟩
         have n8_ : Aside0 (gb126 ≠ gb142) := ⟨h8_⟩
         have n9_ : Aside0 (gb142 ≠ gb126) := ⟨h9_⟩
         have n10_ : Aside0 (gb134 ≠ gb142) := ⟨h10_⟩
         have n11_ : Aside0 (gb142 ≠ gb134) := ⟨h11_⟩
         have n12_ : Aside0 (gb136 ≠ gb142) := ⟨h12_⟩
         have n13_ : Aside0 (gb142 ≠ gb136) := ⟨h13_⟩
         have n14_ : Aside0 (Below w.heap.size w w84) := ⟨h14_⟩
         clear HO_7
         clear HO_10
         clear BK126
         clear BK134
         clear BK136
         clear HB
         clear h0_ h1_ h2_ h3_ h4_ h5_ h6_ h7_ h8_ h9_ h10_ h11_ h12_ h13_ h14_
         have HO_10 := n0_
         have HO_7 := n1_
         have BK126 := n2_
         have BK134 := n3_
         have BK136 := n4_
         have BK142 := n5_
         have GW142 := n6_
         have GE142 := n7_
         have NB126_142 := n8_
         have NB142_126 := n9_
         have NB134_142 := n10_
         have NB142_134 := n11_
         have NB136_142 := n12_
         have NB142_136 := n13_
         have HB := n14_
         clear n0_ n1_ n2_ n3_ n4_ n5_ n6_ n7_ n8_ n9_ n10_ n11_ n12_ n13_ n14_
         have hHeld : w84.cell? ⟨gb136, 0, none⟩ = some (.string ((rd_T36 l0 x29_1).f0)) ∧ w84.cell? ⟨gb136, 1, none⟩ = some (.string ((rd_T36 l0 x29_1).f1)) ∧ w84.cell? (ad137.add ((x29_1).toNat * 2)) = some (.string ((rd_T36 t127 x29_1).f0)) ∧ w84.cell? ⟨(ad137.add ((x29_1).toNat * 2)).block, (ad137.add ((x29_1).toNat * 2)).off + 1, none⟩ = some (.string ((rd_T36 t127 x29_1).f1)) := hS_
         refine norm_ (a' := ?_) ?_ ?_
         rotate_left
         ·simp only [putAll, Act.put, List.setIfInBounds_toArray, List.set_cons_zero, List.set_cons_succ]
          rfl
         refine one_ (i := 12) (N := none) #[true, true, true, true, true, true, true, true, true, true, true, true, true, false] rfl rfl (one_of HT_.out (by kernel_rfl)) (by decide) (fun K hK => ?_)
         have hs85 : w84.cell? ⟨gb142, 0, none⟩ = some (.int .i64 0) := (blk_cell BK142.out 0).trans rfl
         have hfs85 := kF_ BK142.out 0
         have hns85_0 := NB126_142.out
         have hns85_1 := NB134_142.out
         have hns85_2 := NB136_142.out
         have hms85_0 := NB142_126.out
         have hms85_1 := NB142_134.out
         have hms85_2 := NB142_136.out
         have hs86 : w84.cell? ⟨gb142, 1, none⟩ = some (.int .i64 0) := (blk_cell BK142.out 1).trans rfl
         have hfs86 := kF_ BK142.out 1
         have hns86_0 := NB126_142.out
         have hns86_1 := NB134_142.out
         have hns86_2 := NB136_142.out
         have hms86_0 := NB142_126.out
         have hms86_1 := NB142_134.out
         have hms86_2 := NB142_136.out
         have hs87 : w84.cell? ⟨gb142, 2, none⟩ = some (.string (⟨#[]⟩ : ByteArray)) := (blk_cell BK142.out 2).trans rfl
         have hfs87 := kF_ BK142.out 2
         have hns87_0 := NB126_142.out
         have hns87_1 := NB134_142.out
         have hns87_2 := NB136_142.out
         have hms87_0 := NB142_126.out
         have hms87_1 := NB142_134.out
         have hms87_2 := NB142_136.out
         refine skip_ (w1 := ?_) (by rfl) rfl ?_ ?_
         rotate_left
         ·go_simp
          rfl
         refine hK.out _ _ ⟨((cell_far (p := ⟨gb142, _, none⟩) NB136_142.out _).trans (((cell_far (p := ⟨gb142, _, none⟩) NB136_142.out _).trans (((cell_far (p := ⟨gb142, _, none⟩) NB136_142.out _).trans (hHeld.1)))))), ((cell_far (p := ⟨gb142, _, none⟩) NB136_142.out _).trans (((cell_far (p := ⟨gb142, _, none⟩) NB136_142.out _).trans (((cell_far (p := ⟨gb142, _, none⟩) NB136_142.out _).trans (hHeld.2.1)))))), ((cell_far (p := ⟨gb142, _, none⟩) (by first | exact ab_ (VAway.away36 HO_7.out x29_1 (of_eq_true p137) (of_eq_true q137) (fun _ hk => hk.2.2.2.2)) | exact (VAway.away36 HO_7.out x29_1 (of_eq_true p137) (of_eq_true q137) (fun _ hk => hk.2.2.2.2))) _).trans (((cell_far (p := ⟨gb142, _, none⟩) (by first | exact ab_ (VAway.away36 HO_7.out x29_1 (of_eq_true p137) (of_eq_true q137) (fun _ hk => hk.2.2.2.2)) | exact (VAway.away36 HO_7.out x29_1 (of_eq_true p137) (of_eq_true q137) (fun _ hk => hk.2.2.2.2))) _).trans (((cell_far (p := ⟨gb142, _, none⟩) (by first | exact ab_ (VAway.away36 HO_7.out x29_1 (of_eq_true p137) (of_eq_true q137) (fun _ hk => hk.2.2.2.2)) | exact (VAway.away36 HO_7.out x29_1 (of_eq_true p137) (of_eq_true q137) (fun _ hk => hk.2.2.2.2))) _).trans (hHeld.2.2.1)))))), ((cell_far (p := ⟨gb142, _, none⟩) (by first | exact ab_ (VAway.away36 HO_7.out x29_1 (of_eq_true p137) (of_eq_true q137) (fun _ hk => hk.2.2.2.2)) | exact (VAway.away36 HO_7.out x29_1 (of_eq_true p137) (of_eq_true q137) (fun _ hk => hk.2.2.2.2))) _).trans (((cell_far (p := ⟨gb142, _, none⟩) (by first | exact ab_ (VAway.away36 HO_7.out x29_1 (of_eq_true p137) (of_eq_true q137) (fun _ hk => hk.2.2.2.2)) | exact (VAway.away36 HO_7.out x29_1 (of_eq_true p137) (of_eq_true q137) (fun _ hk => hk.2.2.2.2))) _).trans (((cell_far (p := ⟨gb142, _, none⟩) (by first | exact ab_ (VAway.away36 HO_7.out x29_1 (of_eq_true p137) (of_eq_true q137) (fun _ hk => hk.2.2.2.2)) | exact (VAway.away36 HO_7.out x29_1 (of_eq_true p137) (of_eq_true q137) (fun _ hk => hk.2.2.2.2))) _).trans (hHeld.2.2.2))))))⟩ (fun hHeld => ?_)
         clear hK K
         refine pure_ (i := 13) (N := some 14) #[true, true, true, true, true, true, true, true, true, true, true, true, true, true] rfl rfl (any_of HT_.out (by kernel_rfl)) (fun _ _ _ h => h) (Or.inl ⟨by rfl, fun w' => by go_simp; with_reducible rfl⟩) (by simp only [ps_]; rfl) ?_
         refine done_ (done_of HT_.out (by kernel_rfl)) ?_
         try go_wp2
         go_roundg k1
         case measure => have := HK1.out; omega
         case rel => exact ⟨(x10_1), (wrap64 (x29_1 + 1)), (by first | rfl | (simp; done) | (simp [*]; done)), H', ⟨by have := HK1.out; omega⟩, ⟨by (with_reducible repeat (first | apply Kd.V_alloc | apply Kd.V_drewN | apply Kd.V_drew)); exact Kd.V_mono (Kd.V_far (p := ⟨gb142, 2, none⟩) (Kd.V_far (p := ⟨gb142, 1, none⟩) (Kd.V_far (p := ⟨gb142, 0, none⟩) (Kd.V_mono HO_7.out (fun k_ hk => (⟨hk, hk.2.2.2.2⟩ : _ ∧ k_ ≠ gb142))) (fun _ hk => hk.2) (.int .i64 t138)) (fun _ hk => hk.2) (.int .i64 t139)) (fun _ hk => hk.2) (.string t140)) (fun _ hk => ⟨hk.1.1, ⟨hk.1.2.1, hk.1.2.2.1⟩⟩)⟩, ⟨by (with_reducible repeat (first | apply Kd.R_alloc | apply Kd.R_drewN | apply Kd.R_drew)); exact Kd.R_mono (Kd.R_far (p := ⟨gb142, 2, none⟩) (Kd.R_far (p := ⟨gb142, 1, none⟩) (Kd.R_far (p := ⟨gb142, 0, none⟩) (Kd.R_types HO_10.out BK142.out (by decide)) (fun _ hk => hk.2) (.int .i64 t138)) (fun _ hk => hk.2) (.int .i64 t139)) (fun _ hk => hk.2) (.string t140)) (fun _ hk => trivial)⟩, ⟨by refine blk_far ?_ NB126_142.out _; refine blk_far ?_ NB126_142.out _; refine blk_far ?_ NB126_142.out _; exact BK126.out⟩, ⟨by refine blk_far ?_ NB134_142.out _; refine blk_far ?_ NB134_142.out _; refine blk_far ?_ NB134_142.out _; exact BK134.out⟩, ⟨by repeat (first | (with_reducible first | exact HB.out | apply bA_ | apply bN_ | apply bD_ | refine bS_ ?_ GE126.out | refine bS_ ?_ GE134.out | refine bS_ ?_ GE136.out | refine bS_ ?_ GE142.out) | exact HB.out)⟩⟩
       ·rw [if_neg c23] at H
        exact absurd H (by simp)
      ·rw [if_neg c22] at H
       exact absurd H (by simp)
     ·rw [if_neg c21] at H
      exact absurd H (by simp)
    ·rw [if_neg c20] at H
     have c20b0 := decide_eq_false c20
     clear c20
     simp only [Option.some.injEq, Prod.mk.injEq] at H
     obtain ⟨rfl, rfl, rfl, rfl, rfl⟩ := H
     have hnb88 := NB126_134.out
     have hnc88 := NB134_126.out
     have hcz89_0 : wr.cell? ⟨gb126, 0, none⟩ = some (.int .i64 0) := (blk_cell BK126.out 0).trans rfl
     have hcz89_1 : wr.cell? ⟨gb126, 1, none⟩ = some (.int .i64 0) := (blk_cell BK126.out 1).trans rfl
     have hcz89_2 : wr.cell? ⟨gb126, 2, none⟩ = some (.int .i64 0) := (blk_cell BK126.out 2).trans rfl
     have hfz89_0 := kF_ BK126.out 0
     have hfz89_1 := kF_ BK126.out 1
     have hfz89_2 := kF_ BK126.out 2
     go_wp2
     refine bodyPost_ret (results_list (rs := [.tmp 4, .tmp 5, .cell 6 30]) rfl (by simp) (.tmp (.tmp (.cell gb126 30 #[.int .i64 0, .int .i64 0, .int .i64 0] (0, 0) _ rfl (by refine blk_put (cs := #[.int .i64 0, .int .i64 0, .int .i64 0]) ?_ 2 _ rfl; refine blk_put (cs := #[.int .i64 0, .int .i64 0, .int .i64 0]) ?_ 1 _ rfl; refine blk_put (cs := #[.int .i64 0, .int .i64 0, .int .i64 0]) ?_ 0 _ rfl; exact BK126.out) Try.underlying30 rfl (by kernel_rfl) .nil)))) rfl ?_
     exact ⟨_, by first | rfl | (simp [errW_none, errW_some] <;> rfl) | (simp [*, errW_none, errW_some] <;> rfl), by (with_reducible repeat (first | apply Kd.R_alloc | apply Kd.R_drewN | apply Kd.R_drew)); exact Kd.R_mono (Kd.R_far (p := ⟨gb126, 2, none⟩) (Kd.R_far (p := ⟨gb126, 1, none⟩) (Kd.R_far (p := ⟨gb126, 0, none⟩) (Kd.R_types HO_10.out BK126.out (by decide)) (fun _ hk => hk.2) (.int .i64 0)) (fun _ hk => hk.2) (.int .i64 0)) (fun _ hk => hk.2) (.int .i64 0)) (fun _ hk => trivial), by repeat (first | (with_reducible first | exact HB.out | apply bA_ | apply bN_ | apply bD_ | refine bS_ ?_ GE126.out | refine bS_ ?_ GE134.out) | exact HB.out)⟩
end Go.Proofs.Ytclcnglamlegiaa.PMD
