-- Written by ownprint.py, a program of this session (out of the kit's print, with contracts of the session's own).
import Derived.Test.YtclcnglamlegiaaWMore
import Derived.Test.YtclcnglamlegiaaPMDx0
import Derived.Test.YtclcnglamlegiaaPMDx11
import Derived.Test.YtclcnglamlegiaaPMDx12
namespace Go.Proofs.Ytclcnglamlegiaa.PMD
open Go.RowKit Go.Proofs.YtclcnglamlegiaaW.PrintWords Go.Proofs.YtclcnglamlegiaaW.PrintLast Go.Proofs.YtclcnglamlegiaaW.PrintMore
attribute [local go_sem] max2_int min2_int max_two min_two max_three min_three max_four min_four   -- for this text's walks alone
set_option linter.unusedVariables false
set_option linter.unusedSimpArgs false
/-! ### merge_tight: function 22 -/
def merge_tight.f (k : Nat) (a0 : ByteArray) (a1 : ByteArray) : Option (Int × Int × ByteArray × Bool) := if a0.toList = a1.toList then (some (0, 0, (⟨#[]⟩ : ByteArray), false)) else ((merge_ahead.f k a0 a1).bind fun t124 => (if 0 ≤ t124 then (if t124 ≤ (a0.size : Int) then (if t124 ≤ (a1.size : Int) then ((merge_behind.f k (a0.extract (t124 : Int).toNat a0.size) (a1.extract (t124 : Int).toNat a1.size)).bind fun t125 => (if t124 ≤ (wrap64 ((a1.size : Int) - t125)) then (if (wrap64 ((a1.size : Int) - t125)) ≤ (a1.size : Int) then (some (t124, wrap64 ((a0.size : Int) - t125), a1.extract (t124 : Int).toNat ((wrap64 ((a1.size : Int) - t125)) : Int).toNat, true)) else (none)) else (none))) else (none)) else (none)) else (none)))
set_option maxHeartbeats 8000000 in
set_option maxRecDepth 100000 in
theorem merge_tight.calls (k : Nat) (a0 : ByteArray) (a1 : ByteArray) (r1 : Int) (r2 : Int) (r3 : ByteArray) (r4 : Bool) (w : World) (h : merge_tight.f k a0 a1 = some (r1, r2, r3, r4)) :
  Calls Try.prog 22 #[.string a0, .string a1] w fun e w' => e = .returned (.tuple #[.agg #[.int .i64 r1, .int .i64 r2, .string r3], .bool r4]) ∧ Below w.heap.size w w' := by
 have hu58 := Try.underlying58
 have HB := a0_ (Below.refl w.heap.size w)
 have H : (if a0.toList = a1.toList then (some (0, 0, (⟨#[]⟩ : ByteArray), false)) else ((merge_ahead.f k a0 a1).bind fun t124 => (if 0 ≤ t124 then (if t124 ≤ (a0.size : Int) then (if t124 ≤ (a1.size : Int) then ((merge_behind.f k (a0.extract (t124 : Int).toNat a0.size) (a1.extract (t124 : Int).toNat a1.size)).bind fun t125 => (if t124 ≤ (wrap64 ((a1.size : Int) - t125)) then (if (wrap64 ((a1.size : Int) - t125)) ≤ (a1.size : Int) then (some (t124, wrap64 ((a0.size : Int) - t125), a1.extract (t124 : Int).toNat ((wrap64 ((a1.size : Int) - t125)) : Int).toNat, true)) else (none)) else (none))) else (none)) else (none)) else (none)))) = some (r1, r2, r3, r4) := h
 clear h
 by_cases c3 : a0.toList = a1.toList
 ·rw [if_pos c3] at H
  have c3b0 : (a0.toList == a1.toList) = true := beq_iff_eq.mpr c3
  have c3b1 : (a0.toList != a1.toList) = false := bne_eq_false_iff_eq.mpr c3
  clear c3
  simp only [Option.some.injEq, Prod.mk.injEq] at H
  obtain ⟨rfl, rfl, rfl, rfl⟩ := H
  go_enter Try.func22, Try.ntmps22
  go_wp2_with (first | ((with_reducible refine gate_dst (N := 4) rfl ?_); refine box_event ?hg (N := 4) ?hd (cs := #[.int .i64 0, .int .i64 0, .string (⟨#[]⟩ : ByteArray)]) (t := 58) ?hr ?_; (case hd => rfl); (case hg => rfl); (case hr => first | (go_simp; done) | (go_simp; rfl)); intro gb123 hg w4 hbox hb; have BK123 := a0_ (hbox); have GW123 := a0_ ((by rw [hg]; exact (bZ_ (by exact HB.out)) : w.heap.size ≤ gb123)); have GE123 := a0_ ((by rw [hg]; exact (bZ_ (by exact HB.out)) : w.heap.size ≤ gb123)); replace HB := a0_ (bT_ (by exact HB.out) hb); clear hb hbox hg; have hcz5_0 : w4.cell? ⟨gb123, 0, none⟩ = some (.int .i64 0) := (blk_cell BK123.out 0).trans rfl; have hcz5_1 : w4.cell? ⟨gb123, 1, none⟩ = some (.int .i64 0) := (blk_cell BK123.out 1).trans rfl; have hcz5_2 : w4.cell? ⟨gb123, 2, none⟩ = some (.string (⟨#[]⟩ : ByteArray)) := (blk_cell BK123.out 2).trans rfl; have hfz5_0 := kF_ BK123.out 0; have hfz5_1 := kF_ BK123.out 1; have hfz5_2 := kF_ BK123.out 2))
  repeat (go_quiet (first | ((with_reducible refine gate_dst (N := 4) rfl ?_); refine box_event ?hg (N := 4) ?hd (cs := #[.int .i64 0, .int .i64 0, .string (⟨#[]⟩ : ByteArray)]) (t := 58) ?hr ?_; (case hd => rfl); (case hg => rfl); (case hr => first | (go_simp; done) | (go_simp; rfl)); intro gb123 hg w4 hbox hb; have BK123 := a0_ (hbox); have GW123 := a0_ ((by rw [hg]; exact (bZ_ (by exact HB.out)) : w.heap.size ≤ gb123)); have GE123 := a0_ ((by rw [hg]; exact (bZ_ (by exact HB.out)) : w.heap.size ≤ gb123)); replace HB := a0_ (bT_ (by exact HB.out) hb); clear hb hbox hg; have hcz5_0 : w4.cell? ⟨gb123, 0, none⟩ = some (.int .i64 0) := (blk_cell BK123.out 0).trans rfl; have hcz5_1 : w4.cell? ⟨gb123, 1, none⟩ = some (.int .i64 0) := (blk_cell BK123.out 1).trans rfl; have hcz5_2 : w4.cell? ⟨gb123, 2, none⟩ = some (.string (⟨#[]⟩ : ByteArray)) := (blk_cell BK123.out 2).trans rfl; have hfz5_0 := kF_ BK123.out 0; have hfz5_1 := kF_ BK123.out 1; have hfz5_2 := kF_ BK123.out 2)); try go_wp2_with (first | ((with_reducible refine gate_dst (N := 4) rfl ?_); refine box_event ?hg (N := 4) ?hd (cs := #[.int .i64 0, .int .i64 0, .string (⟨#[]⟩ : ByteArray)]) (t := 58) ?hr ?_; (case hd => rfl); (case hg => rfl); (case hr => first | (go_simp; done) | (go_simp; rfl)); intro gb123 hg w4 hbox hb; have BK123 := a0_ (hbox); have GW123 := a0_ ((by rw [hg]; exact (bZ_ (by exact HB.out)) : w.heap.size ≤ gb123)); have GE123 := a0_ ((by rw [hg]; exact (bZ_ (by exact HB.out)) : w.heap.size ≤ gb123)); replace HB := a0_ (bT_ (by exact HB.out) hb); clear hb hbox hg; have hcz5_0 : w4.cell? ⟨gb123, 0, none⟩ = some (.int .i64 0) := (blk_cell BK123.out 0).trans rfl; have hcz5_1 : w4.cell? ⟨gb123, 1, none⟩ = some (.int .i64 0) := (blk_cell BK123.out 1).trans rfl; have hcz5_2 : w4.cell? ⟨gb123, 2, none⟩ = some (.string (⟨#[]⟩ : ByteArray)) := (blk_cell BK123.out 2).trans rfl; have hfz5_0 := kF_ BK123.out 0; have hfz5_1 := kF_ BK123.out 1; have hfz5_2 := kF_ BK123.out 2)))
  refine bodyPost_ret (results_ct rfl _ _ gb123 58 #[.int .i64 0, .int .i64 0, .string (⟨#[]⟩ : ByteArray)] (0, 0) _ rfl (by refine blk_put (cs := #[.int .i64 0, .int .i64 0, .string (⟨#[]⟩ : ByteArray)]) ?_ 2 _ rfl; refine blk_put (cs := #[.int .i64 0, .int .i64 0, .string (⟨#[]⟩ : ByteArray)]) ?_ 1 _ rfl; refine blk_put (cs := #[.int .i64 0, .int .i64 0, .string (⟨#[]⟩ : ByteArray)]) ?_ 0 _ rfl; exact BK123.out) Try.underlying58 rfl (by kernel_rfl)) rfl ?_
  exact ⟨by first | rfl | (simp [errW_none, errW_some] <;> rfl) | (simp [*, errW_none, errW_some] <;> rfl), by repeat (first | (with_reducible first | exact HB.out | apply bA_ | apply bN_ | apply bD_ | refine bS_ ?_ GE123.out) | exact HB.out)⟩
 ·rw [if_neg c3] at H
  have c3b0 : (a0.toList == a1.toList) = false := beq_eq_false_iff_ne.mpr c3
  have c3b1 : (a0.toList != a1.toList) = true := bne_iff_ne.mpr c3
  replace H := ob_ H
  obtain ⟨t124, A60, H⟩ := H
  replace H : (if 0 ≤ t124 then (if t124 ≤ (a0.size : Int) then (if t124 ≤ (a1.size : Int) then ((merge_behind.f k (a0.extract (t124 : Int).toNat a0.size) (a1.extract (t124 : Int).toNat a1.size)).bind fun t125 => (if t124 ≤ (wrap64 ((a1.size : Int) - t125)) then (if (wrap64 ((a1.size : Int) - t125)) ≤ (a1.size : Int) then (some (t124, wrap64 ((a0.size : Int) - t125), a1.extract (t124 : Int).toNat ((wrap64 ((a1.size : Int) - t125)) : Int).toNat, true)) else (none)) else (none))) else (none)) else (none)) else (none)) = some (r1, r2, r3, r4) := H
  have A6 := a0_ A60
  clear A60
  by_cases c7 : 0 ≤ t124
  ·rw [if_pos c7] at H
   have c7b0 := eq_true c7
   have c7b1 : decide (0 ≤ t124) = true := decide_eq_true c7
   clear c7
   by_cases c8 : t124 ≤ (a0.size : Int)
   ·rw [if_pos c8] at H
    have c8b0 := eq_true c8
    have c8b1 : decide (t124 ≤ (a0.size : Int)) = true := decide_eq_true c8
    clear c8
    have c9b0 := eq_true (od_ (by first | (with_reducible assumption) | assumption) : 0 ≤ t124)
    by_cases c10 : t124 ≤ (a1.size : Int)
    ·rw [if_pos c10] at H
     have c10b0 := eq_true c10
     have c10b1 : decide (t124 ≤ (a1.size : Int)) = true := decide_eq_true c10
     clear c10
     replace H := ob_ H
     obtain ⟨t125, A110, H⟩ := H
     replace H : (if t124 ≤ (wrap64 ((a1.size : Int) - t125)) then (if (wrap64 ((a1.size : Int) - t125)) ≤ (a1.size : Int) then (some (t124, wrap64 ((a0.size : Int) - t125), a1.extract (t124 : Int).toNat ((wrap64 ((a1.size : Int) - t125)) : Int).toNat, true)) else (none)) else (none)) = some (r1, r2, r3, r4) := H
     have A11 := a0_ A110
     clear A110
     have c12b0 := eq_true (od_ (by first | (with_reducible assumption) | assumption) : 0 ≤ t124)
     by_cases c13 : t124 ≤ (wrap64 ((a1.size : Int) - t125))
     ·rw [if_pos c13] at H
      have c13b0 := eq_true c13
      have c13b1 : decide (t124 ≤ (wrap64 ((a1.size : Int) - t125))) = true := decide_eq_true c13
      clear c13
      by_cases c14 : (wrap64 ((a1.size : Int) - t125)) ≤ (a1.size : Int)
      ·rw [if_pos c14] at H
       have c14b0 := eq_true c14
       have c14b1 : decide ((wrap64 ((a1.size : Int) - t125)) ≤ (a1.size : Int)) = true := decide_eq_true c14
       clear c14
       simp only [Option.some.injEq, Prod.mk.injEq] at H
       obtain ⟨rfl, rfl, rfl, rfl⟩ := H
       go_enter Try.func22, Try.ntmps22
       go_wp2_with (first | ((with_reducible refine gate_dst (N := 4) rfl ?_); refine box_event ?hg (N := 4) ?hd (cs := #[.int .i64 0, .int .i64 0, .string (⟨#[]⟩ : ByteArray)]) (t := 58) ?hr ?_; (case hd => rfl); (case hg => rfl); (case hr => first | (go_simp; done) | (go_simp; rfl)); intro gb123 hg w15 hbox hb; have BK123 := a0_ (hbox); have GW123 := a0_ ((by rw [hg]; exact (bZ_ (by exact HB.out)) : w.heap.size ≤ gb123)); have GE123 := a0_ ((by rw [hg]; exact (bZ_ (by exact HB.out)) : w.heap.size ≤ gb123)); replace HB := a0_ (bT_ (by exact HB.out) hb); clear hb hbox hg) | (go_at_call 33; (with_reducible refine (merge_ahead.calls k a0 a1 t124 _ A6.out).mono ?_); rintro e w' ⟨rfl, ⟨nd, rfl⟩⟩; (try first | exact ⟨rfl, _, World.drewN_drewN _ _ _⟩ | exact ⟨rfl, _, Eq.trans (World.drewN_drewN _ _ _) (congrArg (World.drewN _) (Nat.add_assoc _ _ _))⟩)) | (go_at_call 34; (with_reducible refine (merge_behind.calls k (a0.extract (t124 : Int).toNat a0.size) (a1.extract (t124 : Int).toNat a1.size) t125 _ A11.out).mono ?_); rintro e w' ⟨rfl, ⟨nd, rfl⟩⟩; (try first | exact ⟨rfl, _, World.drewN_drewN _ _ _⟩ | exact ⟨rfl, _, Eq.trans (World.drewN_drewN _ _ _) (congrArg (World.drewN _) (Nat.add_assoc _ _ _))⟩); have hcz16_0 : w15.cell? ⟨gb123, 0, none⟩ = some (.int .i64 0) := (blk_cell BK123.out 0).trans rfl; have hcz16_1 : w15.cell? ⟨gb123, 1, none⟩ = some (.int .i64 0) := (blk_cell BK123.out 1).trans rfl; have hcz16_2 : w15.cell? ⟨gb123, 2, none⟩ = some (.string (⟨#[]⟩ : ByteArray)) := (blk_cell BK123.out 2).trans rfl; have hfz16_0 := kF_ BK123.out 0; have hfz16_1 := kF_ BK123.out 1; have hfz16_2 := kF_ BK123.out 2))
       repeat (go_quiet (first | ((with_reducible refine gate_dst (N := 4) rfl ?_); refine box_event ?hg (N := 4) ?hd (cs := #[.int .i64 0, .int .i64 0, .string (⟨#[]⟩ : ByteArray)]) (t := 58) ?hr ?_; (case hd => rfl); (case hg => rfl); (case hr => first | (go_simp; done) | (go_simp; rfl)); intro gb123 hg w15 hbox hb; have BK123 := a0_ (hbox); have GW123 := a0_ ((by rw [hg]; exact (bZ_ (by exact HB.out)) : w.heap.size ≤ gb123)); have GE123 := a0_ ((by rw [hg]; exact (bZ_ (by exact HB.out)) : w.heap.size ≤ gb123)); replace HB := a0_ (bT_ (by exact HB.out) hb); clear hb hbox hg) | (go_at_call 33; (with_reducible refine (merge_ahead.calls k a0 a1 t124 _ A6.out).mono ?_); rintro e w' ⟨rfl, ⟨nd, rfl⟩⟩; (try first | exact ⟨rfl, _, World.drewN_drewN _ _ _⟩ | exact ⟨rfl, _, Eq.trans (World.drewN_drewN _ _ _) (congrArg (World.drewN _) (Nat.add_assoc _ _ _))⟩)) | (go_at_call 34; (with_reducible refine (merge_behind.calls k (a0.extract (t124 : Int).toNat a0.size) (a1.extract (t124 : Int).toNat a1.size) t125 _ A11.out).mono ?_); rintro e w' ⟨rfl, ⟨nd, rfl⟩⟩; (try first | exact ⟨rfl, _, World.drewN_drewN _ _ _⟩ | exact ⟨rfl, _, Eq.trans (World.drewN_drewN _ _ _) (congrArg (World.drewN _) (Nat.add_assoc _ _ _))⟩); have hcz16_0 : w15.cell? ⟨gb123, 0, none⟩ = some (.int .i64 0) := (blk_cell BK123.out 0).trans rfl; have hcz16_1 : w15.cell? ⟨gb123, 1, none⟩ = some (.int .i64 0) := (blk_cell BK123.out 1).trans rfl; have hcz16_2 : w15.cell? ⟨gb123, 2, none⟩ = some (.string (⟨#[]⟩ : ByteArray)) := (blk_cell BK123.out 2).trans rfl; have hfz16_0 := kF_ BK123.out 0; have hfz16_1 := kF_ BK123.out 1; have hfz16_2 := kF_ BK123.out 2)); try go_wp2_with (first | ((with_reducible refine gate_dst (N := 4) rfl ?_); refine box_event ?hg (N := 4) ?hd (cs := #[.int .i64 0, .int .i64 0, .string (⟨#[]⟩ : ByteArray)]) (t := 58) ?hr ?_; (case hd => rfl); (case hg => rfl); (case hr => first | (go_simp; done) | (go_simp; rfl)); intro gb123 hg w15 hbox hb; have BK123 := a0_ (hbox); have GW123 := a0_ ((by rw [hg]; exact (bZ_ (by exact HB.out)) : w.heap.size ≤ gb123)); have GE123 := a0_ ((by rw [hg]; exact (bZ_ (by exact HB.out)) : w.heap.size ≤ gb123)); replace HB := a0_ (bT_ (by exact HB.out) hb); clear hb hbox hg) | (go_at_call 33; (with_reducible refine (merge_ahead.calls k a0 a1 t124 _ A6.out).mono ?_); rintro e w' ⟨rfl, ⟨nd, rfl⟩⟩; (try first | exact ⟨rfl, _, World.drewN_drewN _ _ _⟩ | exact ⟨rfl, _, Eq.trans (World.drewN_drewN _ _ _) (congrArg (World.drewN _) (Nat.add_assoc _ _ _))⟩)) | (go_at_call 34; (with_reducible refine (merge_behind.calls k (a0.extract (t124 : Int).toNat a0.size) (a1.extract (t124 : Int).toNat a1.size) t125 _ A11.out).mono ?_); rintro e w' ⟨rfl, ⟨nd, rfl⟩⟩; (try first | exact ⟨rfl, _, World.drewN_drewN _ _ _⟩ | exact ⟨rfl, _, Eq.trans (World.drewN_drewN _ _ _) (congrArg (World.drewN _) (Nat.add_assoc _ _ _))⟩); have hcz16_0 : w15.cell? ⟨gb123, 0, none⟩ = some (.int .i64 0) := (blk_cell BK123.out 0).trans rfl; have hcz16_1 : w15.cell? ⟨gb123, 1, none⟩ = some (.int .i64 0) := (blk_cell BK123.out 1).trans rfl; have hcz16_2 : w15.cell? ⟨gb123, 2, none⟩ = some (.string (⟨#[]⟩ : ByteArray)) := (blk_cell BK123.out 2).trans rfl; have hfz16_0 := kF_ BK123.out 0; have hfz16_1 := kF_ BK123.out 1; have hfz16_2 := kF_ BK123.out 2)))
       refine bodyPost_ret (results_ct rfl _ _ gb123 58 #[.int .i64 t124, .int .i64 (wrap64 ((a0.size : Int) - t125)), .string (a1.extract (t124 : Int).toNat ((wrap64 ((a1.size : Int) - t125)) : Int).toNat)] (0, 0) _ rfl (by (with_reducible repeat (first | refine kN_ ?_ _ | refine kD_ ?_ | refine kA_ ?_ _)); refine blk_put (cs := #[.int .i64 t124, .int .i64 (wrap64 ((a0.size : Int) - t125)), .string (⟨#[]⟩ : ByteArray)]) ?_ 2 _ rfl; (with_reducible repeat (first | refine kN_ ?_ _ | refine kD_ ?_ | refine kA_ ?_ _)); refine blk_put (cs := #[.int .i64 t124, .int .i64 0, .string (⟨#[]⟩ : ByteArray)]) ?_ 1 _ rfl; (with_reducible repeat (first | refine kN_ ?_ _ | refine kD_ ?_ | refine kA_ ?_ _)); refine blk_put (cs := #[.int .i64 0, .int .i64 0, .string (⟨#[]⟩ : ByteArray)]) ?_ 0 _ rfl; (with_reducible repeat (first | refine kN_ ?_ _ | refine kD_ ?_ | refine kA_ ?_ _)); exact BK123.out) Try.underlying58 rfl (by kernel_rfl)) rfl ?_
       exact ⟨by first | rfl | (simp [errW_none, errW_some] <;> rfl) | (simp [*, errW_none, errW_some] <;> rfl), by repeat (first | (with_reducible first | exact HB.out | apply bA_ | apply bN_ | apply bD_ | refine bS_ ?_ GE123.out) | exact HB.out)⟩
      ·rw [if_neg c14] at H
       exact absurd H (by simp)
     ·rw [if_neg c13] at H
      exact absurd H (by simp)
    ·rw [if_neg c10] at H
     exact absurd H (by simp)
   ·rw [if_neg c8] at H
    exact absurd H (by simp)
  ·rw [if_neg c7] at H
   exact absurd H (by simp)
end Go.Proofs.Ytclcnglamlegiaa.PMD
