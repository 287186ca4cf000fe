-- Written by ownprint.py, a program of this session (out of the kit's print, with contracts of the session's own).
import Derived.Test.YtjekpecobkaaoaaDoorPPlx0
import Derived.Test.YtjekpecobkaaoaaDoorPPlx1
import Derived.Test.YtjekpecobkaaoaaDoorPPlx2
import Derived.Test.YtjekpecobkaaoaaDoorPPlx12
namespace Go.Proofs.YtjekpecobkaaoaaDoor.PPl
open Go.RowKit Go.Proofs.YtjekpecobkaaoaaDoorW.PrintWords Go.Proofs.YtjekpecobkaaoaaDoorW.PrintLast Go.Proofs.YtjekpecobkaaoaaDoorW.PrintMore
attribute [local go_sem] max2_int min2_int max_two min_two max_three min_three max_four min_four   -- for this text's walks alone
set_option linter.unusedVariables false
set_option linter.unusedSimpArgs false

attribute [local go_sem high] eqA22
/-! ### oriellaw03_PackPlaces: function 3 -/
mutual
def oriellaw03_PackPlaces.j0 : Nat → Int → Int → Int → Int → Bool → Int → Int → Int → Int → Int → Int → Option (Bool)
  | 0, _, _, _, _, _, _, _, _, _, _, _ => none
  | k + 1, x5, x6, x7, x8, x9, x157000, x157001, x157002, x158000, x158001, x158002 => (oriellaw01_No.f x6).bind fun t162 => (if ((t162 == 0) != x9) = true then (none) else (if x9 = true then (oriellaw03_PackPlaces.j1 k x5 x7 x8 x9 false x157000 x157001 x157002 x158000 x158001 x158002) else ((oriellaw01_No.f x6).bind fun t163 => (if t162 = 2 then (oriellaw03_PackPlaces.j1 k x5 x7 x8 x9 (x5 != 0) x157000 x157001 x157002 x158000 x158001 x158002) else (none)))))
def oriellaw03_PackPlaces.j1 : Nat → Int → Int → Int → Bool → Bool → Int → Int → Int → Int → Int → Int → Option (Bool)
  | 0, _, _, _, _, _, _, _, _, _, _, _ => none
  | k + 1, x5, x7, x8, x9, x79, x157000, x157001, x157002, x158000, x158001, x158002 => if x79 = true then (none) else (if x9 = true then ((pack_Parts.f x5).bind fun bt165 => (if bt165.1 = x157000 then (if bt165.2.1 = x157001 then (if bt165.2.2 = x157002 then (oriellaw03_PackPlaces.j2 k x5 x7 x8 (x5 != (IntKind.u64.wrap ((IntKind.u64.wrap ((IntKind.u64.wrap ((IntKind.u64.wrap ((IntKind.u64.wrap (x157000)) * 16777216)) + (IntKind.u64.wrap (x157001)))) * 16777216)) + (IntKind.u64.wrap (x157002))))) x157000 x157001 x157002 x158000 x158001 x158002) else (none)) else (none)) else (none))) else ((oriellaw03_alive.f k).bind fun t164 => (some t164)))
def oriellaw03_PackPlaces.j2 : Nat → Int → Int → Int → Bool → Int → Int → Int → Int → Int → Int → Option (Bool)
  | 0, _, _, _, _, _, _, _, _, _, _ => none
  | k + 1, x5, x7, x8, x121, x157000, x157001, x157002, x158000, x158001, x158002 => if x121 = true then (none) else ((oriellaw01_No.f x8).bind fun t168 => (if t168 = 0 then (if x157000 < x158000 then (if ((decide (x5 < x7)) == true) = true then (if ((x5 == x7) == (x157000 == x158000 && (x157001 == x158001 && (x157002 == x158002)))) = true then ((oriellaw03_alive.f k).bind fun t169 => (some t169)) else (none)) else (none)) else (if x157000 = x158000 then (if x157001 < x158001 then (if ((decide (x5 < x7)) == true) = true then (if ((x5 == x7) == (x157000 == x158000 && (x157001 == x158001 && (x157002 == x158002)))) = true then ((oriellaw03_alive.f k).bind fun t170 => (some t170)) else (none)) else (none)) else (if x157001 = x158001 then (if ((decide (x5 < x7)) == (decide (x157002 < x158002))) = true then (if ((x5 == x7) == (x157000 == x158000 && (x157001 == x158001 && (x157002 == x158002)))) = true then ((oriellaw03_alive.f k).bind fun t171 => (some t171)) else (none)) else (none)) else (if ((decide (x5 < x7)) == false) = true then (if ((x5 == x7) == (x157000 == x158000 && (x157001 == x158001 && (x157002 == x158002)))) = true then ((oriellaw03_alive.f k).bind fun t172 => (some t172)) else (none)) else (none)))) else (if ((decide (x5 < x7)) == false) = true then (if ((x5 == x7) == (x157000 == x158000 && (x157001 == x158001 && (x157002 == x158002)))) = true then ((oriellaw03_alive.f k).bind fun t173 => (some t173)) else (none)) else (none)))) else ((oriellaw03_alive.f k).bind fun t174 => (some t174))))
end
def oriellaw03_PackPlaces.f (k : Nat) (a0_0 : Int) (a0_1 : Int) (a0_2 : Int) (a1_0 : Int) (a1_1 : Int) (a1_2 : Int) : Option (Bool) := (pack_Place.f a0_0 a0_1 a0_2).bind fun bt158 => ((pack_Place.f a1_0 a1_1 a1_2).bind fun bt160 => (if a0_0 ≥ 0 then (if a0_0 < 65536 then (if a0_1 ≥ 0 then (if a0_1 < 16777216 then (if a0_2 ≥ 0 then (oriellaw03_PackPlaces.j0 k bt158.1 bt158.2 bt160.1 bt160.2 (decide (a0_2 < 16777216)) a0_0 a0_1 a0_2 a1_0 a1_1 a1_2) else (oriellaw03_PackPlaces.j0 k bt158.1 bt158.2 bt160.1 bt160.2 false a0_0 a0_1 a0_2 a1_0 a1_1 a1_2)) else (oriellaw03_PackPlaces.j0 k bt158.1 bt158.2 bt160.1 bt160.2 false a0_0 a0_1 a0_2 a1_0 a1_1 a1_2)) else (oriellaw03_PackPlaces.j0 k bt158.1 bt158.2 bt160.1 bt160.2 false a0_0 a0_1 a0_2 a1_0 a1_1 a1_2)) else (oriellaw03_PackPlaces.j0 k bt158.1 bt158.2 bt160.1 bt160.2 false a0_0 a0_1 a0_2 a1_0 a1_1 a1_2)) else (oriellaw03_PackPlaces.j0 k bt158.1 bt158.2 bt160.1 bt160.2 false a0_0 a0_1 a0_2 a1_0 a1_1 a1_2)))
theorem oriellaw03_PackPlaces.mono_l : ∀ k, (∀ y0 y1 y2 y3 y4 y5 y6 y7 y8 y9 y10, LeO (oriellaw03_PackPlaces.j0 k y0 y1 y2 y3 y4 y5 y6 y7 y8 y9 y10) (oriellaw03_PackPlaces.j0 (k + 1) y0 y1 y2 y3 y4 y5 y6 y7 y8 y9 y10)) ∧ (∀ y0 y1 y2 y3 y4 y5 y6 y7 y8 y9 y10, LeO (oriellaw03_PackPlaces.j1 k y0 y1 y2 y3 y4 y5 y6 y7 y8 y9 y10) (oriellaw03_PackPlaces.j1 (k + 1) y0 y1 y2 y3 y4 y5 y6 y7 y8 y9 y10)) ∧ (∀ y0 y1 y2 y3 y4 y5 y6 y7 y8 y9, LeO (oriellaw03_PackPlaces.j2 k y0 y1 y2 y3 y4 y5 y6 y7 y8 y9) (oriellaw03_PackPlaces.j2 (k + 1) y0 y1 y2 y3 y4 y5 y6 y7 y8 y9))
  | 0 => ⟨fun _ _ _ _ _ _ _ _ _ _ _ r h => by simp [oriellaw03_PackPlaces.j0] at h, fun _ _ _ _ _ _ _ _ _ _ _ r h => by simp [oriellaw03_PackPlaces.j1] at h, fun _ _ _ _ _ _ _ _ _ _ r h => by simp [oriellaw03_PackPlaces.j2] at h⟩
  | k + 1 => by
    obtain ⟨ih0, ih1, ih2⟩ := oriellaw03_PackPlaces.mono_l k
    refine ⟨?_, ?_, ?_⟩
    · intro y0 y1 y2 y3 y4 y5 y6 y7 y8 y9 y10
      unfold oriellaw03_PackPlaces.j0
      repeat' first
      | (with_reducible exact ih0 _ _ _ _ _ _ _ _ _ _ _)
      | (with_reducible exact ih1 _ _ _ _ _ _ _ _ _ _ _)
      | (with_reducible exact ih2 _ _ _ _ _ _ _ _ _ _)
      | (with_reducible exact oriellaw03_alive.mono _)
      | (with_reducible exact LeO.refl _)
      | (with_reducible exact LeO.none _)
      | (with_reducible refine LeO.ite ?_ ?_)
      | (with_reducible refine LeO.bind ?_ (fun _ => ?_))
      | exact ih0 _ _ _ _ _ _ _ _ _ _ _
      | exact ih1 _ _ _ _ _ _ _ _ _ _ _
      | exact ih2 _ _ _ _ _ _ _ _ _ _
      | exact oriellaw03_alive.mono _
      | exact LeO.none _
      | refine LeO.ite ?_ ?_
      | refine LeO.bind ?_ (fun _ => ?_)
    · intro y0 y1 y2 y3 y4 y5 y6 y7 y8 y9 y10
      unfold oriellaw03_PackPlaces.j1
      repeat' first
      | (with_reducible exact ih0 _ _ _ _ _ _ _ _ _ _ _)
      | (with_reducible exact ih1 _ _ _ _ _ _ _ _ _ _ _)
      | (with_reducible exact ih2 _ _ _ _ _ _ _ _ _ _)
      | (with_reducible exact oriellaw03_alive.mono _)
      | (with_reducible exact LeO.refl _)
      | (with_reducible exact LeO.none _)
      | (with_reducible refine LeO.ite ?_ ?_)
      | (with_reducible refine LeO.bind ?_ (fun _ => ?_))
      | exact ih0 _ _ _ _ _ _ _ _ _ _ _
      | exact ih1 _ _ _ _ _ _ _ _ _ _ _
      | exact ih2 _ _ _ _ _ _ _ _ _ _
      | exact oriellaw03_alive.mono _
      | exact LeO.none _
      | refine LeO.ite ?_ ?_
      | refine LeO.bind ?_ (fun _ => ?_)
    · intro y0 y1 y2 y3 y4 y5 y6 y7 y8 y9
      unfold oriellaw03_PackPlaces.j2
      repeat' first
      | (with_reducible exact ih0 _ _ _ _ _ _ _ _ _ _ _)
      | (with_reducible exact ih1 _ _ _ _ _ _ _ _ _ _ _)
      | (with_reducible exact ih2 _ _ _ _ _ _ _ _ _ _)
      | (with_reducible exact oriellaw03_alive.mono _)
      | (with_reducible exact LeO.refl _)
      | (with_reducible exact LeO.none _)
      | (with_reducible refine LeO.ite ?_ ?_)
      | (with_reducible refine LeO.bind ?_ (fun _ => ?_))
      | exact ih0 _ _ _ _ _ _ _ _ _ _ _
      | exact ih1 _ _ _ _ _ _ _ _ _ _ _
      | exact ih2 _ _ _ _ _ _ _ _ _ _
      | exact oriellaw03_alive.mono _
      | exact LeO.none _
      | refine LeO.ite ?_ ?_
      | refine LeO.bind ?_ (fun _ => ?_)
theorem oriellaw03_PackPlaces.mono : ∀ a0 a1 a2 a3 a4 a5 k, LeO (oriellaw03_PackPlaces.f k a0 a1 a2 a3 a4 a5) (oriellaw03_PackPlaces.f (k + 1) a0 a1 a2 a3 a4 a5) := by
  intro a0 a1 a2 a3 a4 a5 k
  obtain ⟨ih0, ih1, ih2⟩ := oriellaw03_PackPlaces.mono_l k
  unfold oriellaw03_PackPlaces.f
  repeat' first
      | (with_reducible exact ih0 _ _ _ _ _ _ _ _ _ _ _)
      | (with_reducible exact ih1 _ _ _ _ _ _ _ _ _ _ _)
      | (with_reducible exact ih2 _ _ _ _ _ _ _ _ _ _)
      | (with_reducible exact oriellaw03_alive.mono _)
      | (with_reducible exact LeO.refl _)
      | (with_reducible exact LeO.none _)
      | (with_reducible refine LeO.ite ?_ ?_)
      | (with_reducible refine LeO.bind ?_ (fun _ => ?_))
      | exact ih0 _ _ _ _ _ _ _ _ _ _ _
      | exact ih1 _ _ _ _ _ _ _ _ _ _ _
      | exact ih2 _ _ _ _ _ _ _ _ _ _
      | exact oriellaw03_alive.mono _
      | exact LeO.none _
      | refine LeO.ite ?_ ?_
      | refine LeO.bind ?_ (fun _ => ?_)
set_option maxHeartbeats 8000000 in
set_option maxRecDepth 100000 in
theorem oriellaw03_PackPlaces.calls (k : Nat) (a0_0 : Int) (a0_1 : Int) (a0_2 : Int) (a1_0 : Int) (a1_1 : Int) (a1_2 : Int) (r : Bool) (w : World) (hT : TabW w) (h : oriellaw03_PackPlaces.f k a0_0 a0_1 a0_2 a1_0 a1_1 a1_2 = some r) :
    Calls Tryd.prog 3 #[.agg #[.int .i64 a0_0, .int .i64 a0_1, .int .i64 a0_2], .agg #[.int .i64 a1_0, .int .i64 a1_1, .int .i64 a1_2]] w fun e w' => e = .returned (.bool r) ∧ Below w.heap.size w w' := by
  have HT := Aside0.mk hT
  clear hT
  have hu22 := Tryd.underlying22
  have HB := Aside0.mk (Below.refl w.heap.size w)
  have H : ((pack_Place.f a0_0 a0_1 a0_2).bind fun bt158 => ((pack_Place.f a1_0 a1_1 a1_2).bind fun bt160 => (if a0_0 ≥ 0 then (if a0_0 < 65536 then (if a0_1 ≥ 0 then (if a0_1 < 16777216 then (if a0_2 ≥ 0 then (oriellaw03_PackPlaces.j0 k bt158.1 bt158.2 bt160.1 bt160.2 (decide (a0_2 < 16777216)) a0_0 a0_1 a0_2 a1_0 a1_1 a1_2) else (oriellaw03_PackPlaces.j0 k bt158.1 bt158.2 bt160.1 bt160.2 false a0_0 a0_1 a0_2 a1_0 a1_1 a1_2)) else (oriellaw03_PackPlaces.j0 k bt158.1 bt158.2 bt160.1 bt160.2 false a0_0 a0_1 a0_2 a1_0 a1_1 a1_2)) else (oriellaw03_PackPlaces.j0 k bt158.1 bt158.2 bt160.1 bt160.2 false a0_0 a0_1 a0_2 a1_0 a1_1 a1_2)) else (oriellaw03_PackPlaces.j0 k bt158.1 bt158.2 bt160.1 bt160.2 false a0_0 a0_1 a0_2 a1_0 a1_1 a1_2)) else (oriellaw03_PackPlaces.j0 k bt158.1 bt158.2 bt160.1 bt160.2 false a0_0 a0_1 a0_2 a1_0 a1_1 a1_2)))) = some r := h
  clear h
  replace H := Option.bind_eq_some_iff.mp H
  obtain ⟨⟨t158, t159⟩, A30, H⟩ := H
  replace H : ((pack_Place.f a1_0 a1_1 a1_2).bind fun bt160 => (if a0_0 ≥ 0 then (if a0_0 < 65536 then (if a0_1 ≥ 0 then (if a0_1 < 16777216 then (if a0_2 ≥ 0 then (oriellaw03_PackPlaces.j0 k t158 t159 bt160.1 bt160.2 (decide (a0_2 < 16777216)) a0_0 a0_1 a0_2 a1_0 a1_1 a1_2) else (oriellaw03_PackPlaces.j0 k t158 t159 bt160.1 bt160.2 false a0_0 a0_1 a0_2 a1_0 a1_1 a1_2)) else (oriellaw03_PackPlaces.j0 k t158 t159 bt160.1 bt160.2 false a0_0 a0_1 a0_2 a1_0 a1_1 a1_2)) else (oriellaw03_PackPlaces.j0 k t158 t159 bt160.1 bt160.2 false a0_0 a0_1 a0_2 a1_0 a1_1 a1_2)) else (oriellaw03_PackPlaces.j0 k t158 t159 bt160.1 bt160.2 false a0_0 a0_1 a0_2 a1_0 a1_1 a1_2)) else (oriellaw03_PackPlaces.j0 k t158 t159 bt160.1 bt160.2 false a0_0 a0_1 a0_2 a1_0 a1_1 a1_2))) = some r := H
  have A3 := Aside0.mk A30
  clear A30
  replace H := Option.bind_eq_some_iff.mp H
  obtain ⟨⟨t160, t161⟩, A40, H⟩ := H
  replace H : (if a0_0 ≥ 0 then (if a0_0 < 65536 then (if a0_1 ≥ 0 then (if a0_1 < 16777216 then (if a0_2 ≥ 0 then (oriellaw03_PackPlaces.j0 k t158 t159 t160 t161 (decide (a0_2 < 16777216)) a0_0 a0_1 a0_2 a1_0 a1_1 a1_2) else (oriellaw03_PackPlaces.j0 k t158 t159 t160 t161 false a0_0 a0_1 a0_2 a1_0 a1_1 a1_2)) else (oriellaw03_PackPlaces.j0 k t158 t159 t160 t161 false a0_0 a0_1 a0_2 a1_0 a1_1 a1_2)) else (oriellaw03_PackPlaces.j0 k t158 t159 t160 t161 false a0_0 a0_1 a0_2 a1_0 a1_1 a1_2)) else (oriellaw03_PackPlaces.j0 k t158 t159 t160 t161 false a0_0 a0_1 a0_2 a1_0 a1_1 a1_2)) else (oriellaw03_PackPlaces.j0 k t158 t159 t160 t161 false a0_0 a0_1 a0_2 a1_0 a1_1 a1_2)) = some r := H
  have A4 := Aside0.mk A40
  clear A40
  have HC5 := Aside0.mk H
  clear H
  go_enter Tryd.func3, Tryd.ntmps3
  go_upto_region 3 with (first | ((with_reducible refine gate_dst (N := 2) rfl ?_); refine box_event ?hg (N := 2) ?hd (cs := #[.int .i64 a0_0, .int .i64 a0_1, .int .i64 a0_2]) (t := 22) ?hr ?_; (case hd => rfl); (case hg => rfl); (case hr => first | (go_simp; done) | (go_simp; rfl)); intro gb156 hg w6 hbox hb; have n0_ := Aside0.mk (below_step (by repeat (first | (with_reducible first | exact HB.out | apply below_alloc | apply pw_below_drewN | apply below_drew1) | exact HB.out)) hb); have n1_ := Aside0.mk (hbox); have n2_ := Aside0.mk ((by rw [hg]; exact (below_size (by repeat (first | (with_reducible first | exact HB.out | apply below_alloc | apply pw_below_drewN | apply below_drew1) | exact HB.out))) : w.heap.size ≤ gb156)); have n3_ := Aside0.mk ((by rw [hg]; exact (below_size (by repeat (first | (with_reducible first | exact HB.out | apply below_alloc | apply pw_below_drewN | apply below_drew1) | exact HB.out))) : w.heap.size ≤ gb156)); clear HB; have HB := n0_; have BK156 := n1_; have GW156 := n2_; have GE156 := n3_; clear n0_ n1_ n2_ n3_; clear hb hbox hg) | ((with_reducible refine gate_dst (N := 3) rfl ?_); refine box_event ?hg (N := 3) ?hd (cs := #[.int .i64 a1_0, .int .i64 a1_1, .int .i64 a1_2]) (t := 22) ?hr ?_; (case hd => rfl); (case hg => rfl); (case hr => first | (go_simp; done) | (go_simp; rfl)); intro gb157 hg w7 hbox hb; have n0_ := Aside0.mk (blk_below (g := gb156) (o := .cells #[.int .i64 a0_0, .int .i64 a0_1, .int .i64 a0_2] 22 (0, 0)) (by (with_reducible repeat (first | refine blk_drewN ?_ _ | refine blk_drew ?_ | refine blk_alloc ?_ _)); exact BK156.out) hb); have n1_ := Aside0.mk (below_step (by repeat (first | (with_reducible first | exact HB.out | apply below_alloc | apply pw_below_drewN | apply below_drew1 | refine below_set ?_ GE156.out) | exact HB.out)) hb); have n2_ := Aside0.mk (hbox); have n3_ := Aside0.mk ((by rw [hg]; exact (below_size (by repeat (first | (with_reducible first | exact HB.out | apply below_alloc | apply pw_below_drewN | apply below_drew1 | refine below_set ?_ GE156.out) | exact HB.out))) : w.heap.size ≤ gb157)); have n4_ := Aside0.mk ((by rw [hg]; exact (below_size (by repeat (first | (with_reducible first | exact HB.out | apply below_alloc | apply pw_below_drewN | apply below_drew1 | refine below_set ?_ GE156.out) | exact HB.out))) : w.heap.size ≤ gb157)); have n5_ := Aside0.mk ((by rw [hg]; exact Nat.ne_of_lt (blk_lt (g := gb156) (o := .cells #[.int .i64 a0_0, .int .i64 a0_1, .int .i64 a0_2] 22 (0, 0)) (by (with_reducible repeat (first | refine blk_drewN ?_ _ | refine blk_drew ?_ | refine blk_alloc ?_ _)); exact BK156.out)) : gb156 ≠ gb157)); have n6_ := Aside0.mk ((by rw [hg]; exact Nat.ne_of_gt (blk_lt (g := gb156) (o := .cells #[.int .i64 a0_0, .int .i64 a0_1, .int .i64 a0_2] 22 (0, 0)) (by (with_reducible repeat (first | refine blk_drewN ?_ _ | refine blk_drew ?_ | refine blk_alloc ?_ _)); exact BK156.out)) : gb157 ≠ gb156)); clear BK156; clear HB; have BK156 := n0_; have HB := n1_; have BK157 := n2_; have GW157 := n3_; have GE157 := n4_; have NB156_157 := n5_; have NB157_156 := n6_; clear n0_ n1_ n2_ n3_ n4_ n5_ n6_; clear hb hbox hg; have hnb8 := NB156_157.out; have hnc8 := NB157_156.out; have hcz9_0 : w7.cell? ⟨gb156, 0, none⟩ = some (.int .i64 a0_0) := (blk_cell BK156.out 0).trans rfl; have hcz9_1 : w7.cell? ⟨gb156, 1, none⟩ = some (.int .i64 a0_1) := (blk_cell BK156.out 1).trans rfl; have hcz9_2 : w7.cell? ⟨gb156, 2, none⟩ = some (.int .i64 a0_2) := (blk_cell BK156.out 2).trans rfl; have hfz9_0 := blk_frozen BK156.out 0; have hfz9_1 := blk_frozen BK156.out 1; have hfz9_2 := blk_frozen BK156.out 2) | ((with_reducible refine gate_callee (f := 10) rfl ?_); refine goesL_ (some 21) rfl rfl Tryd.func10 (by kernel_rfl) rfl #[.int .i64 a0_0, .int .i64 a0_1, .int .i64 a0_2] rfl (by (try simp only [List.map_toArray, List.map_cons, List.map_nil]); first | done | rfl | (simp only [List.length_drop, List.length_take]; rfl)) ?_; (with_reducible refine (pack_Place.calls a0_0 a0_1 a0_2 t158 t159 _ A3.out).mono ?_); rintro e w' ⟨rfl, ⟨nd, rfl⟩⟩; refine ⟨_, rfl, ?_⟩; have hcz10_0 : w7.cell? ⟨gb157, 0, none⟩ = some (.int .i64 a1_0) := (blk_cell BK157.out 0).trans rfl; have hcz10_1 : w7.cell? ⟨gb157, 1, none⟩ = some (.int .i64 a1_1) := (blk_cell BK157.out 1).trans rfl; have hcz10_2 : w7.cell? ⟨gb157, 2, none⟩ = some (.int .i64 a1_2) := (blk_cell BK157.out 2).trans rfl; have hfz10_0 := blk_frozen BK157.out 0; have hfz10_1 := blk_frozen BK157.out 1; have hfz10_2 := blk_frozen BK157.out 2) | ((with_reducible refine gate_callee (f := 10) rfl ?_); refine goesL_ (some 31) rfl rfl Tryd.func10 (by kernel_rfl) rfl #[.int .i64 a1_0, .int .i64 a1_1, .int .i64 a1_2] rfl (by (try simp only [List.map_toArray, List.map_cons, List.map_nil]); first | done | rfl | (simp only [List.length_drop, List.length_take]; rfl)) ?_; (with_reducible refine (pack_Place.calls a1_0 a1_1 a1_2 t160 t161 _ A4.out).mono ?_); rintro e w' ⟨rfl, ⟨nd, rfl⟩⟩; refine ⟨_, rfl, ?_⟩))
  (try simp only [Act.put, List.setIfInBounds_toArray, List.set_cons_zero, List.set_cons_succ])
  go_cut [9] (fun v9 wc => ∃ (kq : Nat) (x9_4 : Bool), v9 = .bool x9_4 ∧ Aside0 (oriellaw03_PackPlaces.j0 kq t158 t159 t160 t161 x9_4 a0_0 a0_1 a0_2 a1_0 a1_1 a1_2 = some r) ∧ Aside0 (kq ≤ k) ∧ Aside0 (wc.heap[gb156]? = some (.cells #[.int .i64 a0_0, .int .i64 a0_1, .int .i64 a0_2] 22 (0, 0))) ∧ Aside0 (wc.heap[gb157]? = some (.cells #[.int .i64 a1_0, .int .i64 a1_1, .int .i64 a1_2] 22 (0, 0))) ∧ Aside0 (Below w.heap.size w wc))
  case first =>
    have H := HC5.out
    clear HC5
    by_cases c11 : a0_0 ≥ 0
    · rw [if_pos c11] at H
      have c11b0 : decide (0 ≤ a0_0) = true := decide_eq_true c11
      clear c11
      (first | rw [c11b0] | (simp only [i64_w, i32_w]; rw [c11b0]) | skip)
      by_cases c12 : a0_0 < 65536
      · rw [if_pos c12] at H
        have c12b0 : decide (a0_0 < 65536) = true := decide_eq_true c12
        clear c12
        by_cases c13 : a0_1 ≥ 0
        · rw [if_pos c13] at H
          have c13b0 : decide (0 ≤ a0_1) = true := decide_eq_true c13
          clear c13
          by_cases c14 : a0_1 < 16777216
          · rw [if_pos c14] at H
            have c14b0 : decide (a0_1 < 16777216) = true := decide_eq_true c14
            clear c14
            by_cases c15 : a0_2 ≥ 0
            · rw [if_pos c15] at H
              have c15b0 : decide (0 ≤ a0_2) = true := decide_eq_true c15
              clear c15
              have H' := Aside0.mk H
              clear H
              have hnb16 := NB156_157.out
              have hnc16 := NB157_156.out
              have hcz17_0 : w7.cell? ⟨gb156, 0, none⟩ = some (.int .i64 a0_0) := (blk_cell BK156.out 0).trans rfl
              have hcz17_1 : w7.cell? ⟨gb156, 1, none⟩ = some (.int .i64 a0_1) := (blk_cell BK156.out 1).trans rfl
              have hcz17_2 : w7.cell? ⟨gb156, 2, none⟩ = some (.int .i64 a0_2) := (blk_cell BK156.out 2).trans rfl
              have hfz17_0 := blk_frozen BK156.out 0
              have hfz17_1 := blk_frozen BK156.out 1
              have hfz17_2 := blk_frozen BK156.out 2
              go_wp2
              go_meet
              case rel => exact ⟨_, (decide (a0_2 < 16777216)), (by first | rfl | (simp; done) | (simp [*]; done)), H', ⟨by first | omega | exact Nat.le_refl _⟩, ⟨by (with_reducible repeat (first | refine blk_drewN ?_ _ | refine blk_drew ?_ | refine blk_alloc ?_ _)); exact BK156.out⟩, ⟨by (with_reducible repeat (first | refine blk_drewN ?_ _ | refine blk_drew ?_ | refine blk_alloc ?_ _)); exact BK157.out⟩, ⟨by repeat (first | (with_reducible first | exact HB.out | apply below_alloc | apply pw_below_drewN | apply below_drew1 | refine below_set ?_ GE156.out | refine below_set ?_ GE157.out) | exact HB.out)⟩⟩
            · rw [if_neg c15] at H
              have c15b0 : decide (0 ≤ a0_2) = false := decide_eq_false c15
              clear c15
              have H' := Aside0.mk H
              clear H
              have hnb18 := NB156_157.out
              have hnc18 := NB157_156.out
              have hcz19_0 : w7.cell? ⟨gb156, 0, none⟩ = some (.int .i64 a0_0) := (blk_cell BK156.out 0).trans rfl
              have hcz19_1 : w7.cell? ⟨gb156, 1, none⟩ = some (.int .i64 a0_1) := (blk_cell BK156.out 1).trans rfl
              have hcz19_2 : w7.cell? ⟨gb156, 2, none⟩ = some (.int .i64 a0_2) := (blk_cell BK156.out 2).trans rfl
              have hfz19_0 := blk_frozen BK156.out 0
              have hfz19_1 := blk_frozen BK156.out 1
              have hfz19_2 := blk_frozen BK156.out 2
              go_wp2
              go_meet
              case rel => exact ⟨_, (false), (by first | rfl | (simp; done) | (simp [*]; done)), H', ⟨by first | omega | exact Nat.le_refl _⟩, ⟨by (with_reducible repeat (first | refine blk_drewN ?_ _ | refine blk_drew ?_ | refine blk_alloc ?_ _)); exact BK156.out⟩, ⟨by (with_reducible repeat (first | refine blk_drewN ?_ _ | refine blk_drew ?_ | refine blk_alloc ?_ _)); exact BK157.out⟩, ⟨by repeat (first | (with_reducible first | exact HB.out | apply below_alloc | apply pw_below_drewN | apply below_drew1 | refine below_set ?_ GE156.out | refine below_set ?_ GE157.out) | exact HB.out)⟩⟩
          · rw [if_neg c14] at H
            have c14b0 : decide (a0_1 < 16777216) = false := decide_eq_false c14
            clear c14
            have H' := Aside0.mk H
            clear H
            have hnb20 := NB156_157.out
            have hnc20 := NB157_156.out
            have hcz21_0 : w7.cell? ⟨gb156, 0, none⟩ = some (.int .i64 a0_0) := (blk_cell BK156.out 0).trans rfl
            have hcz21_1 : w7.cell? ⟨gb156, 1, none⟩ = some (.int .i64 a0_1) := (blk_cell BK156.out 1).trans rfl
            have hcz21_2 : w7.cell? ⟨gb156, 2, none⟩ = some (.int .i64 a0_2) := (blk_cell BK156.out 2).trans rfl
            have hfz21_0 := blk_frozen BK156.out 0
            have hfz21_1 := blk_frozen BK156.out 1
            have hfz21_2 := blk_frozen BK156.out 2
            go_wp2
            go_meet
            case rel => exact ⟨_, (false), (by first | rfl | (simp; done) | (simp [*]; done)), H', ⟨by first | omega | exact Nat.le_refl _⟩, ⟨by (with_reducible repeat (first | refine blk_drewN ?_ _ | refine blk_drew ?_ | refine blk_alloc ?_ _)); exact BK156.out⟩, ⟨by (with_reducible repeat (first | refine blk_drewN ?_ _ | refine blk_drew ?_ | refine blk_alloc ?_ _)); exact BK157.out⟩, ⟨by repeat (first | (with_reducible first | exact HB.out | apply below_alloc | apply pw_below_drewN | apply below_drew1 | refine below_set ?_ GE156.out | refine below_set ?_ GE157.out) | exact HB.out)⟩⟩
        · rw [if_neg c13] at H
          have c13b0 : decide (0 ≤ a0_1) = false := decide_eq_false c13
          clear c13
          have H' := Aside0.mk H
          clear H
          have hnb22 := NB156_157.out
          have hnc22 := NB157_156.out
          have hcz23_0 : w7.cell? ⟨gb156, 0, none⟩ = some (.int .i64 a0_0) := (blk_cell BK156.out 0).trans rfl
          have hcz23_1 : w7.cell? ⟨gb156, 1, none⟩ = some (.int .i64 a0_1) := (blk_cell BK156.out 1).trans rfl
          have hcz23_2 : w7.cell? ⟨gb156, 2, none⟩ = some (.int .i64 a0_2) := (blk_cell BK156.out 2).trans rfl
          have hfz23_0 := blk_frozen BK156.out 0
          have hfz23_1 := blk_frozen BK156.out 1
          have hfz23_2 := blk_frozen BK156.out 2
          go_wp2
          go_meet
          case rel => exact ⟨_, (false), (by first | rfl | (simp; done) | (simp [*]; done)), H', ⟨by first | omega | exact Nat.le_refl _⟩, ⟨by (with_reducible repeat (first | refine blk_drewN ?_ _ | refine blk_drew ?_ | refine blk_alloc ?_ _)); exact BK156.out⟩, ⟨by (with_reducible repeat (first | refine blk_drewN ?_ _ | refine blk_drew ?_ | refine blk_alloc ?_ _)); exact BK157.out⟩, ⟨by repeat (first | (with_reducible first | exact HB.out | apply below_alloc | apply pw_below_drewN | apply below_drew1 | refine below_set ?_ GE156.out | refine below_set ?_ GE157.out) | exact HB.out)⟩⟩
      · rw [if_neg c12] at H
        have c12b0 : decide (a0_0 < 65536) = false := decide_eq_false c12
        clear c12
        have H' := Aside0.mk H
        clear H
        have hnb24 := NB156_157.out
        have hnc24 := NB157_156.out
        have hcz25_0 : w7.cell? ⟨gb156, 0, none⟩ = some (.int .i64 a0_0) := (blk_cell BK156.out 0).trans rfl
        have hcz25_1 : w7.cell? ⟨gb156, 1, none⟩ = some (.int .i64 a0_1) := (blk_cell BK156.out 1).trans rfl
        have hcz25_2 : w7.cell? ⟨gb156, 2, none⟩ = some (.int .i64 a0_2) := (blk_cell BK156.out 2).trans rfl
        have hfz25_0 := blk_frozen BK156.out 0
        have hfz25_1 := blk_frozen BK156.out 1
        have hfz25_2 := blk_frozen BK156.out 2
        go_wp2
        go_meet
        case rel => exact ⟨_, (false), (by first | rfl | (simp; done) | (simp [*]; done)), H', ⟨by first | omega | exact Nat.le_refl _⟩, ⟨by (with_reducible repeat (first | refine blk_drewN ?_ _ | refine blk_drew ?_ | refine blk_alloc ?_ _)); exact BK156.out⟩, ⟨by (with_reducible repeat (first | refine blk_drewN ?_ _ | refine blk_drew ?_ | refine blk_alloc ?_ _)); exact BK157.out⟩, ⟨by repeat (first | (with_reducible first | exact HB.out | apply below_alloc | apply pw_below_drewN | apply below_drew1 | refine below_set ?_ GE156.out | refine below_set ?_ GE157.out) | exact HB.out)⟩⟩
    · rw [if_neg c11] at H
      have c11b0 : decide (0 ≤ a0_0) = false := decide_eq_false c11
      clear c11
      (first | rw [c11b0] | (simp only [i64_w, i32_w]; rw [c11b0]) | skip)
      have H' := Aside0.mk H
      clear H
      have hnb26 := NB156_157.out
      have hnc26 := NB157_156.out
      have hcz27_0 : w7.cell? ⟨gb156, 0, none⟩ = some (.int .i64 a0_0) := (blk_cell BK156.out 0).trans rfl
      have hcz27_1 : w7.cell? ⟨gb156, 1, none⟩ = some (.int .i64 a0_1) := (blk_cell BK156.out 1).trans rfl
      have hcz27_2 : w7.cell? ⟨gb156, 2, none⟩ = some (.int .i64 a0_2) := (blk_cell BK156.out 2).trans rfl
      have hfz27_0 := blk_frozen BK156.out 0
      have hfz27_1 := blk_frozen BK156.out 1
      have hfz27_2 := blk_frozen BK156.out 2
      go_wp2
      go_meet
      case rel => exact ⟨_, (false), (by first | rfl | (simp; done) | (simp [*]; done)), H', ⟨by first | omega | exact Nat.le_refl _⟩, ⟨by (with_reducible repeat (first | refine blk_drewN ?_ _ | refine blk_drew ?_ | refine blk_alloc ?_ _)); exact BK156.out⟩, ⟨by (with_reducible repeat (first | refine blk_drewN ?_ _ | refine blk_drew ?_ | refine blk_alloc ?_ _)); exact BK157.out⟩, ⟨by repeat (first | (with_reducible first | exact HB.out | apply below_alloc | apply pw_below_drewN | apply below_drew1 | refine below_set ?_ GE156.out | refine below_set ?_ GE157.out) | exact HB.out)⟩⟩
  case rest =>
    clear HC5
    try clear c1
    try clear c2
    try clear p2
    try clear c3
    try clear c8
    try clear c10
    try clear c11
    try clear c11b0
    try clear c12
    try clear c12b0
    try clear c13
    try clear c13b0
    try clear c14
    try clear c14b0
    try clear c15
    try clear c15b0
    try clear c16
    try clear c18
    try clear c20
    try clear c22
    try clear c24
    try clear c26
    try clear hcz10_0
    try clear hcz10_1
    try clear hcz10_2
    try clear hcz17_0
    try clear hcz17_1
    try clear hcz17_2
    try clear hcz19_0
    try clear hcz19_1
    try clear hcz19_2
    try clear hcz21_0
    try clear hcz21_1
    try clear hcz21_2
    try clear hcz23_0
    try clear hcz23_1
    try clear hcz23_2
    try clear hcz25_0
    try clear hcz25_1
    try clear hcz25_2
    try clear hcz27_0
    try clear hcz27_1
    try clear hcz27_2
    try clear hcz9_0
    try clear hcz9_1
    try clear hcz9_2
    try clear hfz10_0
    try clear hfz10_1
    try clear hfz10_2
    try clear hfz17_0
    try clear hfz17_1
    try clear hfz17_2
    try clear hfz19_0
    try clear hfz19_1
    try clear hfz19_2
    try clear hfz21_0
    try clear hfz21_1
    try clear hfz21_2
    try clear hfz23_0
    try clear hfz23_1
    try clear hfz23_2
    try clear hfz25_0
    try clear hfz25_1
    try clear hfz25_2
    try clear hfz27_0
    try clear hfz27_1
    try clear hfz27_2
    try clear hfz9_0
    try clear hfz9_1
    try clear hfz9_2
    obtain ⟨kq, x9_4, rfl, HA, HJ4, BK156, BK157, HB⟩ := hcut
    cases kq with
    | zero => exact absurd HA.out (by simp [oriellaw03_PackPlaces.j0])
    | succ kj4 =>
      have H := HA.out
      clear HA
      simp only [oriellaw03_PackPlaces.j0] at H
      have HC28 := Aside0.mk H
      clear H
      go_upto_region 4 with (fail)
      go_cut [79] (fun v79 wc => ∃ (kq : Nat) (x79_27 : Bool), v79 = .bool x79_27 ∧ Aside0 (oriellaw03_PackPlaces.j1 kq t158 t160 t161 x9_4 x79_27 a0_0 a0_1 a0_2 a1_0 a1_1 a1_2 = some r) ∧ Aside0 (kq ≤ kj4) ∧ Aside0 (wc.heap[gb156]? = some (.cells #[.int .i64 a0_0, .int .i64 a0_1, .int .i64 a0_2] 22 (0, 0))) ∧ Aside0 (wc.heap[gb157]? = some (.cells #[.int .i64 a1_0, .int .i64 a1_1, .int .i64 a1_2] 22 (0, 0))) ∧ Aside0 (Below w.heap.size w wc))
      case first =>
        have H := HC28.out
        clear HC28
        replace H := Option.bind_eq_some_iff.mp H
        obtain ⟨t162, A290, H⟩ := H
        replace H : (if ((t162 == 0) != x9_4) = true then (none) else (if x9_4 = true then (oriellaw03_PackPlaces.j1 kj4 t158 t160 t161 x9_4 false a0_0 a0_1 a0_2 a1_0 a1_1 a1_2) else ((oriellaw01_No.f t159).bind fun t163 => (if t162 = 2 then (oriellaw03_PackPlaces.j1 kj4 t158 t160 t161 x9_4 (t158 != 0) a0_0 a0_1 a0_2 a1_0 a1_1 a1_2) else (none))))) = some r := H
        have A29 := Aside0.mk A290
        clear A290
        by_cases c30 : ((t162 == 0) != x9_4) = true
        · rw [if_pos c30] at H
          exact absurd H (by simp)
        · rw [if_neg c30] at H
          have c30b0 : ((t162 == 0) != x9_4) = false := by simpa using c30
          (try (have c30b1 : decide ((t162 == 0) = x9_4) = true := by simpa using c30))
          (try (have c30b2 : ((t162 == 0) == x9_4) = true := by simpa using c30))
          clear c30
          (first | rw [c30b0] | (simp only [i64_w, i32_w]; rw [c30b0]) | skip)
          by_cases c31 : x9_4 = true
          · subst c31
            have H1 : (oriellaw03_PackPlaces.j1 kj4 t158 t160 t161 true false a0_0 a0_1 a0_2 a1_0 a1_1 a1_2) = some r := by rw [if_pos rfl] at H; exact H
            clear H
            have H := H1
            clear H1
            have H' := Aside0.mk H
            clear H
            go_wp2_with (first | ((with_reducible refine gate_callee (f := 11) rfl ?_); refine goesL_ (some 63) rfl rfl Tryd.func11 (by kernel_rfl) rfl #[.int .i64 t159] rfl (by (try simp only [List.map_toArray, List.map_cons, List.map_nil]); first | done | rfl | (simp only [List.length_drop, List.length_take]; rfl)) ?_; (with_reducible refine (oriellaw01_No.calls t159 t162 _ A29.out).mono ?_); rintro e w' ⟨rfl, ⟨nd, rfl⟩⟩; refine ⟨_, rfl, ?_⟩))
            go_meet
            case rel => exact ⟨_, (false), (by first | rfl | (simp; done) | (simp [*]; done)), H', ⟨by have := HJ4.out; first | omega | exact Nat.le_refl _⟩, ⟨by (with_reducible repeat (first | refine blk_drewN ?_ _ | refine blk_drew ?_ | refine blk_alloc ?_ _)); exact BK156.out⟩, ⟨by (with_reducible repeat (first | refine blk_drewN ?_ _ | refine blk_drew ?_ | refine blk_alloc ?_ _)); exact BK157.out⟩, ⟨by repeat (first | (with_reducible first | exact HB.out | apply below_alloc | apply pw_below_drewN | apply below_drew1 | refine below_set ?_ GE156.out | refine below_set ?_ GE157.out) | exact HB.out)⟩⟩
          · replace c31 := Bool.eq_false_iff.mpr c31
            subst c31
            have H1 : ((oriellaw01_No.f t159).bind fun t163 => (if t162 = 2 then (oriellaw03_PackPlaces.j1 kj4 t158 t160 t161 false (t158 != 0) a0_0 a0_1 a0_2 a1_0 a1_1 a1_2) else (none))) = some r := by rw [if_neg (show ¬ (false = true) by decide)] at H; exact H
            clear H
            have H := H1
            clear H1
            replace H := Option.bind_eq_some_iff.mp H
            obtain ⟨t163, A320, H⟩ := H
            replace H : (if t162 = 2 then (oriellaw03_PackPlaces.j1 kj4 t158 t160 t161 false (t158 != 0) a0_0 a0_1 a0_2 a1_0 a1_1 a1_2) else (none)) = some r := H
            clear A320
            by_cases c33 : t162 = 2
            · rw [if_pos c33] at H
              have c33b0 : (t162 == 2) = true := beq_iff_eq.mpr c33
              have c33b1 : (t162 != 2) = false := bne_eq_false_iff_eq.mpr c33
              clear c33
              have H' := Aside0.mk H
              clear H
              go_wp2_with (first | ((with_reducible refine gate_callee (f := 11) rfl ?_); refine goesL_ (some 63) rfl rfl Tryd.func11 (by kernel_rfl) rfl #[.int .i64 t159] rfl (by (try simp only [List.map_toArray, List.map_cons, List.map_nil]); first | done | rfl | (simp only [List.length_drop, List.length_take]; rfl)) ?_; (with_reducible refine (oriellaw01_No.calls t159 t162 _ A29.out).mono ?_); rintro e w' ⟨rfl, ⟨nd, rfl⟩⟩; refine ⟨_, rfl, ?_⟩) | (go_at_call 11; (with_reducible refine (oriellaw01_No.calls t159 t162 _ A29.out).mono ?_); rintro e w' ⟨rfl, ⟨nd, rfl⟩⟩))
              go_meet
              case rel => exact ⟨_, ((t158 != 0)), (by first | rfl | (simp; done) | (simp [*]; done)), H', ⟨by have := HJ4.out; first | omega | exact Nat.le_refl _⟩, ⟨by (with_reducible repeat (first | refine blk_drewN ?_ _ | refine blk_drew ?_ | refine blk_alloc ?_ _)); exact BK156.out⟩, ⟨by (with_reducible repeat (first | refine blk_drewN ?_ _ | refine blk_drew ?_ | refine blk_alloc ?_ _)); exact BK157.out⟩, ⟨by repeat (first | (with_reducible first | exact HB.out | apply below_alloc | apply pw_below_drewN | apply below_drew1 | refine below_set ?_ GE156.out | refine below_set ?_ GE157.out) | exact HB.out)⟩⟩
            · rw [if_neg c33] at H
              exact absurd H (by simp)
      case rest =>
        clear HC28
        try clear c1
        try clear c2
        try clear p2
        try clear c3
        try clear c8
        try clear c10
        try clear c11
        try clear c11b0
        try clear c12
        try clear c12b0
        try clear c13
        try clear c13b0
        try clear c14
        try clear c14b0
        try clear c15
        try clear c15b0
        try clear c16
        try clear c18
        try clear c20
        try clear c22
        try clear c24
        try clear c26
        try clear c30
        try clear c30b0
        try clear c30b1
        try clear c30b2
        try clear c31
        try clear c33
        try clear c33b0
        try clear c33b1
        try clear hcz10_0
        try clear hcz10_1
        try clear hcz10_2
        try clear hcz17_0
        try clear hcz17_1
        try clear hcz17_2
        try clear hcz19_0
        try clear hcz19_1
        try clear hcz19_2
        try clear hcz21_0
        try clear hcz21_1
        try clear hcz21_2
        try clear hcz23_0
        try clear hcz23_1
        try clear hcz23_2
        try clear hcz25_0
        try clear hcz25_1
        try clear hcz25_2
        try clear hcz27_0
        try clear hcz27_1
        try clear hcz27_2
        try clear hcz9_0
        try clear hcz9_1
        try clear hcz9_2
        try clear hfz10_0
        try clear hfz10_1
        try clear hfz10_2
        try clear hfz17_0
        try clear hfz17_1
        try clear hfz17_2
        try clear hfz19_0
        try clear hfz19_1
        try clear hfz19_2
        try clear hfz21_0
        try clear hfz21_1
        try clear hfz21_2
        try clear hfz23_0
        try clear hfz23_1
        try clear hfz23_2
        try clear hfz25_0
        try clear hfz25_1
        try clear hfz25_2
        try clear hfz27_0
        try clear hfz27_1
        try clear hfz27_2
        try clear hfz9_0
        try clear hfz9_1
        try clear hfz9_2
        try clear p2
        obtain ⟨kq, x79_27, rfl, HA, HJ27, BK156, BK157, HB⟩ := hcut
        cases kq with
        | zero => exact absurd HA.out (by simp [oriellaw03_PackPlaces.j1])
        | succ kj27 =>
          have H := HA.out
          clear HA
          simp only [oriellaw03_PackPlaces.j1] at H
          by_cases c34 : x79_27 = true
          · subst c34
            have H1 : (none) = some r := by rw [if_pos rfl] at H; exact H
            clear H
            have H := H1
            clear H1
            exact absurd H (by simp)
          · replace c34 := Bool.eq_false_iff.mpr c34
            subst c34
            have H1 : (if x9_4 = true then ((pack_Parts.f t158).bind fun bt165 => (if bt165.1 = a0_0 then (if bt165.2.1 = a0_1 then (if bt165.2.2 = a0_2 then (oriellaw03_PackPlaces.j2 kj27 t158 t160 t161 (t158 != (IntKind.u64.wrap ((IntKind.u64.wrap ((IntKind.u64.wrap ((IntKind.u64.wrap ((IntKind.u64.wrap (a0_0)) * 16777216)) + (IntKind.u64.wrap (a0_1)))) * 16777216)) + (IntKind.u64.wrap (a0_2))))) a0_0 a0_1 a0_2 a1_0 a1_1 a1_2) else (none)) else (none)) else (none))) else ((oriellaw03_alive.f kj27).bind fun t164 => (some t164))) = some r := by rw [if_neg (show ¬ (false = true) by decide)] at H; exact H
            clear H
            have H := H1
            clear H1
            by_cases c35 : x9_4 = true
            · subst c35
              have H1 : ((pack_Parts.f t158).bind fun bt165 => (if bt165.1 = a0_0 then (if bt165.2.1 = a0_1 then (if bt165.2.2 = a0_2 then (oriellaw03_PackPlaces.j2 kj27 t158 t160 t161 (t158 != (IntKind.u64.wrap ((IntKind.u64.wrap ((IntKind.u64.wrap ((IntKind.u64.wrap ((IntKind.u64.wrap (a0_0)) * 16777216)) + (IntKind.u64.wrap (a0_1)))) * 16777216)) + (IntKind.u64.wrap (a0_2))))) a0_0 a0_1 a0_2 a1_0 a1_1 a1_2) else (none)) else (none)) else (none))) = some r := by rw [if_pos rfl] at H; exact H
              clear H
              have H := H1
              clear H1
              replace H := Option.bind_eq_some_iff.mp H
              obtain ⟨⟨t165, t166, t167⟩, A360, H⟩ := H
              replace H : (if t165 = a0_0 then (if t166 = a0_1 then (if t167 = a0_2 then (oriellaw03_PackPlaces.j2 kj27 t158 t160 t161 (t158 != (IntKind.u64.wrap ((IntKind.u64.wrap ((IntKind.u64.wrap ((IntKind.u64.wrap ((IntKind.u64.wrap (a0_0)) * 16777216)) + (IntKind.u64.wrap (a0_1)))) * 16777216)) + (IntKind.u64.wrap (a0_2))))) a0_0 a0_1 a0_2 a1_0 a1_1 a1_2) else (none)) else (none)) else (none)) = some r := H
              have A36 := Aside0.mk A360
              clear A360
              have HC37 := Aside0.mk H
              clear H
              go_upto_region 9 with (first | ((with_reducible refine gate_callee (f := 13) rfl ?_); refine goesL_ (some 85) rfl rfl Tryd.func13 (by kernel_rfl) rfl #[.int .u64 t158] rfl (by (try simp only [List.map_toArray, List.map_cons, List.map_nil]); first | done | rfl | (simp only [List.length_drop, List.length_take]; rfl)) ?_; (with_reducible refine (pack_Parts.calls t158 t165 t166 t167 _ A36.out).mono ?_); rintro e w' ⟨rfl, ⟨nd, rfl⟩⟩; refine ⟨_, rfl, ?_⟩))
              (try simp only [Act.put, List.setIfInBounds_toArray, List.set_cons_zero, List.set_cons_succ])
              go_cut [121] (fun v121 wc => ∃ (kq : Nat) (x121_36 : Bool), v121 = .bool x121_36 ∧ Aside0 (oriellaw03_PackPlaces.j2 kq t158 t160 t161 x121_36 a0_0 a0_1 a0_2 a1_0 a1_1 a1_2 = some r) ∧ Aside0 (kq ≤ kj27) ∧ Aside0 (wc.heap[gb156]? = some (.cells #[.int .i64 a0_0, .int .i64 a0_1, .int .i64 a0_2] 22 (0, 0))) ∧ Aside0 (wc.heap[gb157]? = some (.cells #[.int .i64 a1_0, .int .i64 a1_1, .int .i64 a1_2] 22 (0, 0))) ∧ Aside0 (Below w.heap.size w wc))
              case first =>
                have H := HC37.out
                clear HC37
                by_cases c38 : t165 = a0_0
                · rw [if_pos c38] at H
                  have c38b0 : (t165 == a0_0) = true := beq_iff_eq.mpr c38
                  have c38b1 : (t165 != a0_0) = false := bne_eq_false_iff_eq.mpr c38
                  clear c38
                  (first | rw [c38b0] | (simp only [i64_w, i32_w]; rw [c38b0]) | skip)
                  by_cases c39 : t166 = a0_1
                  · rw [if_pos c39] at H
                    have c39b0 : (t166 == a0_1) = true := beq_iff_eq.mpr c39
                    have c39b1 : (t166 != a0_1) = false := bne_eq_false_iff_eq.mpr c39
                    clear c39
                    by_cases c40 : t167 = a0_2
                    · rw [if_pos c40] at H
                      have c40b0 : (t167 == a0_2) = true := beq_iff_eq.mpr c40
                      have c40b1 : (t167 != a0_2) = false := bne_eq_false_iff_eq.mpr c40
                      clear c40
                      have H' := Aside0.mk H
                      clear H
                      have hnb41 := NB156_157.out
                      have hnc41 := NB157_156.out
                      have hcz42_0 : wc.cell? ⟨gb156, 0, none⟩ = some (.int .i64 a0_0) := (blk_cell BK156.out 0).trans rfl
                      have hcz42_1 : wc.cell? ⟨gb156, 1, none⟩ = some (.int .i64 a0_1) := (blk_cell BK156.out 1).trans rfl
                      have hcz42_2 : wc.cell? ⟨gb156, 2, none⟩ = some (.int .i64 a0_2) := (blk_cell BK156.out 2).trans rfl
                      have hfz42_0 := blk_frozen BK156.out 0
                      have hfz42_1 := blk_frozen BK156.out 1
                      have hfz42_2 := blk_frozen BK156.out 2
                      go_wp2
                      go_meet
                      case rel => exact ⟨_, ((t158 != (IntKind.u64.wrap ((IntKind.u64.wrap ((IntKind.u64.wrap ((IntKind.u64.wrap ((IntKind.u64.wrap (a0_0)) * 16777216)) + (IntKind.u64.wrap (a0_1)))) * 16777216)) + (IntKind.u64.wrap (a0_2)))))), (by first | rfl | (simp; done) | (simp [*]; done)), H', ⟨by have := HJ4.out; have := HJ27.out; first | omega | exact Nat.le_refl _⟩, ⟨by (with_reducible repeat (first | refine blk_drewN ?_ _ | refine blk_drew ?_ | refine blk_alloc ?_ _)); exact BK156.out⟩, ⟨by (with_reducible repeat (first | refine blk_drewN ?_ _ | refine blk_drew ?_ | refine blk_alloc ?_ _)); exact BK157.out⟩, ⟨by repeat (first | (with_reducible first | exact HB.out | apply below_alloc | apply pw_below_drewN | apply below_drew1 | refine below_set ?_ GE156.out | refine below_set ?_ GE157.out) | exact HB.out)⟩⟩
                    · rw [if_neg c40] at H
                      exact absurd H (by simp)
                  · rw [if_neg c39] at H
                    exact absurd H (by simp)
                · rw [if_neg c38] at H
                  exact absurd H (by simp)
              case rest =>
                clear HC37
                try clear c1
                try clear c2
                try clear p2
                try clear c3
                try clear c4
                try clear c8
                try clear c10
                try clear c11
                try clear c11b0
                try clear c12
                try clear c12b0
                try clear c13
                try clear c13b0
                try clear c14
                try clear c14b0
                try clear c15
                try clear c15b0
                try clear c16
                try clear c18
                try clear c20
                try clear c22
                try clear c24
                try clear c26
                try clear c30
                try clear c30b0
                try clear c30b1
                try clear c30b2
                try clear c31
                try clear c33
                try clear c33b0
                try clear c33b1
                try clear c34
                try clear c35
                try clear c38
                try clear c38b0
                try clear c38b1
                try clear c39
                try clear c39b0
                try clear c39b1
                try clear c40
                try clear c40b0
                try clear c40b1
                try clear c41
                try clear hcz10_0
                try clear hcz10_1
                try clear hcz10_2
                try clear hcz17_0
                try clear hcz17_1
                try clear hcz17_2
                try clear hcz19_0
                try clear hcz19_1
                try clear hcz19_2
                try clear hcz21_0
                try clear hcz21_1
                try clear hcz21_2
                try clear hcz23_0
                try clear hcz23_1
                try clear hcz23_2
                try clear hcz25_0
                try clear hcz25_1
                try clear hcz25_2
                try clear hcz27_0
                try clear hcz27_1
                try clear hcz27_2
                try clear hcz42_0
                try clear hcz42_1
                try clear hcz42_2
                try clear hcz9_0
                try clear hcz9_1
                try clear hcz9_2
                try clear hfz10_0
                try clear hfz10_1
                try clear hfz10_2
                try clear hfz17_0
                try clear hfz17_1
                try clear hfz17_2
                try clear hfz19_0
                try clear hfz19_1
                try clear hfz19_2
                try clear hfz21_0
                try clear hfz21_1
                try clear hfz21_2
                try clear hfz23_0
                try clear hfz23_1
                try clear hfz23_2
                try clear hfz25_0
                try clear hfz25_1
                try clear hfz25_2
                try clear hfz27_0
                try clear hfz27_1
                try clear hfz27_2
                try clear hfz42_0
                try clear hfz42_1
                try clear hfz42_2
                try clear hfz9_0
                try clear hfz9_1
                try clear hfz9_2
                try clear p2
                obtain ⟨kq, x121_36, rfl, HA, HJ36, BK156, BK157, HB⟩ := hcut
                cases kq with
                | zero => exact absurd HA.out (by simp [oriellaw03_PackPlaces.j2])
                | succ kj36 =>
                  have H := HA.out
                  clear HA
                  simp only [oriellaw03_PackPlaces.j2] at H
                  by_cases c43 : x121_36 = true
                  · subst c43
                    have H1 : (none) = some r := by rw [if_pos rfl] at H; exact H
                    clear H
                    have H := H1
                    clear H1
                    exact absurd H (by simp)
                  · replace c43 := Bool.eq_false_iff.mpr c43
                    subst c43
                    have H1 : ((oriellaw01_No.f t161).bind fun t168 => (if t168 = 0 then (if a0_0 < a1_0 then (if ((decide (t158 < t160)) == true) = true then (if ((t158 == t160) == (a0_0 == a1_0 && (a0_1 == a1_1 && (a0_2 == a1_2)))) = true then ((oriellaw03_alive.f kj36).bind fun t169 => (some t169)) else (none)) else (none)) else (if a0_0 = a1_0 then (if a0_1 < a1_1 then (if ((decide (t158 < t160)) == true) = true then (if ((t158 == t160) == (a0_0 == a1_0 && (a0_1 == a1_1 && (a0_2 == a1_2)))) = true then ((oriellaw03_alive.f kj36).bind fun t170 => (some t170)) else (none)) else (none)) else (if a0_1 = a1_1 then (if ((decide (t158 < t160)) == (decide (a0_2 < a1_2))) = true then (if ((t158 == t160) == (a0_0 == a1_0 && (a0_1 == a1_1 && (a0_2 == a1_2)))) = true then ((oriellaw03_alive.f kj36).bind fun t171 => (some t171)) else (none)) else (none)) else (if ((decide (t158 < t160)) == false) = true then (if ((t158 == t160) == (a0_0 == a1_0 && (a0_1 == a1_1 && (a0_2 == a1_2)))) = true then ((oriellaw03_alive.f kj36).bind fun t172 => (some t172)) else (none)) else (none)))) else (if ((decide (t158 < t160)) == false) = true then (if ((t158 == t160) == (a0_0 == a1_0 && (a0_1 == a1_1 && (a0_2 == a1_2)))) = true then ((oriellaw03_alive.f kj36).bind fun t173 => (some t173)) else (none)) else (none)))) else ((oriellaw03_alive.f kj36).bind fun t174 => (some t174)))) = some r := by rw [if_neg (show ¬ (false = true) by decide)] at H; exact H
                    clear H
                    have H := H1
                    clear H1
                    replace H := Option.bind_eq_some_iff.mp H
                    obtain ⟨t168, A440, H⟩ := H
                    replace H : (if t168 = 0 then (if a0_0 < a1_0 then (if ((decide (t158 < t160)) == true) = true then (if ((t158 == t160) == (a0_0 == a1_0 && (a0_1 == a1_1 && (a0_2 == a1_2)))) = true then ((oriellaw03_alive.f kj36).bind fun t169 => (some t169)) else (none)) else (none)) else (if a0_0 = a1_0 then (if a0_1 < a1_1 then (if ((decide (t158 < t160)) == true) = true then (if ((t158 == t160) == (a0_0 == a1_0 && (a0_1 == a1_1 && (a0_2 == a1_2)))) = true then ((oriellaw03_alive.f kj36).bind fun t170 => (some t170)) else (none)) else (none)) else (if a0_1 = a1_1 then (if ((decide (t158 < t160)) == (decide (a0_2 < a1_2))) = true then (if ((t158 == t160) == (a0_0 == a1_0 && (a0_1 == a1_1 && (a0_2 == a1_2)))) = true then ((oriellaw03_alive.f kj36).bind fun t171 => (some t171)) else (none)) else (none)) else (if ((decide (t158 < t160)) == false) = true then (if ((t158 == t160) == (a0_0 == a1_0 && (a0_1 == a1_1 && (a0_2 == a1_2)))) = true then ((oriellaw03_alive.f kj36).bind fun t172 => (some t172)) else (none)) else (none)))) else (if ((decide (t158 < t160)) == false) = true then (if ((t158 == t160) == (a0_0 == a1_0 && (a0_1 == a1_1 && (a0_2 == a1_2)))) = true then ((oriellaw03_alive.f kj36).bind fun t173 => (some t173)) else (none)) else (none)))) else ((oriellaw03_alive.f kj36).bind fun t174 => (some t174))) = some r := H
                    have A44 := Aside0.mk A440
                    clear A440
                    by_cases c45 : t168 = 0
                    · rw [if_pos c45] at H
                      have c45b0 : (t168 == 0) = true := beq_iff_eq.mpr c45
                      have c45b1 : (t168 != 0) = false := bne_eq_false_iff_eq.mpr c45
                      clear c45
                      by_cases c46 : a0_0 < a1_0
                      · rw [if_pos c46] at H
                        have c46b0 : decide (a0_0 < a1_0) = true := decide_eq_true c46
                        clear c46
                        by_cases c47 : ((decide (t158 < t160)) == true) = true
                        · rw [if_pos c47] at H
                          have c47b0 : ((decide (t158 < t160)) == true) = true := c47
                          (try (have c47b1 : decide ((decide (t158 < t160)) = true) = true := by simpa using c47))
                          (try (have c47b2 : ((decide (t158 < t160)) == true) = true := by simpa using c47))
                          clear c47
                          by_cases c48 : ((t158 == t160) == (a0_0 == a1_0 && (a0_1 == a1_1 && (a0_2 == a1_2)))) = true
                          · rw [if_pos c48] at H
                            have c48b0 : ((t158 == t160) == (a0_0 == a1_0 && (a0_1 == a1_1 && (a0_2 == a1_2)))) = true := c48
                            (try (have c48b1 : decide ((t158 == t160) = (a0_0 == a1_0 && (a0_1 == a1_1 && (a0_2 == a1_2)))) = true := by simpa using c48))
                            (try (have c48b2 : ((t158 == t160) == (a0_0 == a1_0 && (a0_1 == a1_1 && (a0_2 == a1_2)))) = true := by simpa using c48))
                            have c48z := c48b0
                            (try rw [show (a0_0 == a1_0) = true from by assumption, Bool.true_and] at c48z)
                            (try rw [show (a0_0 == a1_0) = false from by assumption, Bool.false_and] at c48z)
                            (try rw [show (a0_1 == a1_1) = true from by assumption, Bool.true_and] at c48z)
                            (try rw [show (a0_1 == a1_1) = false from by assumption, Bool.false_and] at c48z)
                            (try (have c48y : (t158 == t160) = false := by simpa using c48z))
                            clear c48
                            replace H := Option.bind_eq_some_iff.mp H
                            obtain ⟨t169, A490, H⟩ := H
                            replace H : (some t169) = some r := H
                            have A49 := Aside0.mk A490
                            clear A490
                            obtain rfl := Option.some.inj H
                            go_wp2_with (first | ((with_reducible refine gate_callee (f := 11) rfl ?_); refine goesL_ (some 123) rfl rfl Tryd.func11 (by kernel_rfl) rfl #[.int .i64 t161] rfl (by (try simp only [List.map_toArray, List.map_cons, List.map_nil]); first | done | rfl | (simp only [List.length_drop, List.length_take]; rfl)) ?_; (with_reducible refine (oriellaw01_No.calls t161 t168 _ A44.out).mono ?_); rintro e w' ⟨rfl, ⟨nd, rfl⟩⟩; refine ⟨_, rfl, ?_⟩; have hnb50 := NB156_157.out; have hnc50 := NB157_156.out; have hcz51_0 : wc.cell? ⟨gb156, 0, none⟩ = some (.int .i64 a0_0) := (blk_cell BK156.out 0).trans rfl; have hcz51_1 : wc.cell? ⟨gb156, 1, none⟩ = some (.int .i64 a0_1) := (blk_cell BK156.out 1).trans rfl; have hcz51_2 : wc.cell? ⟨gb156, 2, none⟩ = some (.int .i64 a0_2) := (blk_cell BK156.out 2).trans rfl; have hfz51_0 := blk_frozen BK156.out 0; have hfz51_1 := blk_frozen BK156.out 1; have hfz51_2 := blk_frozen BK156.out 2; have hcz52_0 : wc.cell? ⟨gb157, 0, none⟩ = some (.int .i64 a1_0) := (blk_cell BK157.out 0).trans rfl; have hcz52_1 : wc.cell? ⟨gb157, 1, none⟩ = some (.int .i64 a1_1) := (blk_cell BK157.out 1).trans rfl; have hcz52_2 : wc.cell? ⟨gb157, 2, none⟩ = some (.int .i64 a1_2) := (blk_cell BK157.out 2).trans rfl; have hfz52_0 := blk_frozen BK157.out 0; have hfz52_1 := blk_frozen BK157.out 1; have hfz52_2 := blk_frozen BK157.out 2) | (go_at_call 12; (with_reducible refine (oriellaw03_alive.calls kj36  t169 _ ?sideT A49.out).mono ?_); (case sideT => first | exact HT.out | exact TabW.below HT.out (by repeat (first | (with_reducible first | exact HB.out | apply below_alloc | apply pw_below_drewN | apply below_drew1) | exact HB.out))); rintro e w53 ⟨rfl, hb⟩; have n0_ := Aside0.mk (blk_below (g := gb156) (o := .cells #[.int .i64 a0_0, .int .i64 a0_1, .int .i64 a0_2] 22 (0, 0)) (by (with_reducible repeat (first | refine blk_drewN ?_ _ | refine blk_drew ?_ | refine blk_alloc ?_ _)); exact BK156.out) hb); have n1_ := Aside0.mk (blk_below (g := gb157) (o := .cells #[.int .i64 a1_0, .int .i64 a1_1, .int .i64 a1_2] 22 (0, 0)) (by (with_reducible repeat (first | refine blk_drewN ?_ _ | refine blk_drew ?_ | refine blk_alloc ?_ _)); exact BK157.out) hb); have n2_ := Aside0.mk (below_step (by repeat (first | (with_reducible first | exact HB.out | apply below_alloc | apply pw_below_drewN | apply below_drew1 | refine below_set ?_ GE156.out | refine below_set ?_ GE157.out) | exact HB.out)) hb); clear BK156; clear BK157; clear HB; have BK156 := n0_; have BK157 := n1_; have HB := n2_; clear n0_ n1_ n2_; (try clear hb); (try clear hb2); (try clear hk); (try clear hi)))
                            go_ret
                            exact ⟨by first | rfl | (simp [errW_none, errW_some] <;> rfl) | (simp [*, errW_none, errW_some] <;> rfl), by repeat (first | (with_reducible first | exact HB.out | apply below_alloc | apply pw_below_drewN | apply below_drew1 | refine below_set ?_ GE156.out | refine below_set ?_ GE157.out) | exact HB.out)⟩
                          · rw [if_neg c48] at H
                            exact absurd H (by simp)
                        · rw [if_neg c47] at H
                          exact absurd H (by simp)
                      · rw [if_neg c46] at H
                        have c46b0 : decide (a0_0 < a1_0) = false := decide_eq_false c46
                        clear c46
                        by_cases c54 : a0_0 = a1_0
                        · rw [if_pos c54] at H
                          have c54b0 : (a0_0 == a1_0) = true := beq_iff_eq.mpr c54
                          have c54b1 : (a0_0 != a1_0) = false := bne_eq_false_iff_eq.mpr c54
                          clear c54
                          by_cases c55 : a0_1 < a1_1
                          · rw [if_pos c55] at H
                            have c55b0 : decide (a0_1 < a1_1) = true := decide_eq_true c55
                            clear c55
                            by_cases c56 : ((decide (t158 < t160)) == true) = true
                            · rw [if_pos c56] at H
                              have c56b0 : ((decide (t158 < t160)) == true) = true := c56
                              (try (have c56b1 : decide ((decide (t158 < t160)) = true) = true := by simpa using c56))
                              (try (have c56b2 : ((decide (t158 < t160)) == true) = true := by simpa using c56))
                              clear c56
                              by_cases c57 : ((t158 == t160) == (a0_0 == a1_0 && (a0_1 == a1_1 && (a0_2 == a1_2)))) = true
                              · rw [if_pos c57] at H
                                have c57b0 : ((t158 == t160) == (a0_0 == a1_0 && (a0_1 == a1_1 && (a0_2 == a1_2)))) = true := c57
                                (try (have c57b1 : decide ((t158 == t160) = (a0_0 == a1_0 && (a0_1 == a1_1 && (a0_2 == a1_2)))) = true := by simpa using c57))
                                (try (have c57b2 : ((t158 == t160) == (a0_0 == a1_0 && (a0_1 == a1_1 && (a0_2 == a1_2)))) = true := by simpa using c57))
                                have c57z := c57b0
                                (try rw [show (a0_0 == a1_0) = true from by assumption, Bool.true_and] at c57z)
                                (try rw [show (a0_0 == a1_0) = false from by assumption, Bool.false_and] at c57z)
                                (try rw [show (a0_1 == a1_1) = true from by assumption, Bool.true_and] at c57z)
                                (try rw [show (a0_1 == a1_1) = false from by assumption, Bool.false_and] at c57z)
                                (try (have c57y : (t158 == t160) = false := by simpa using c57z))
                                clear c57
                                replace H := Option.bind_eq_some_iff.mp H
                                obtain ⟨t170, A580, H⟩ := H
                                replace H : (some t170) = some r := H
                                have A58 := Aside0.mk A580
                                clear A580
                                obtain rfl := Option.some.inj H
                                go_wp2_with (first | ((with_reducible refine gate_callee (f := 11) rfl ?_); refine goesL_ (some 123) rfl rfl Tryd.func11 (by kernel_rfl) rfl #[.int .i64 t161] rfl (by (try simp only [List.map_toArray, List.map_cons, List.map_nil]); first | done | rfl | (simp only [List.length_drop, List.length_take]; rfl)) ?_; (with_reducible refine (oriellaw01_No.calls t161 t168 _ A44.out).mono ?_); rintro e w' ⟨rfl, ⟨nd, rfl⟩⟩; refine ⟨_, rfl, ?_⟩; have hnb59 := NB156_157.out; have hnc59 := NB157_156.out; have hcz60_0 : wc.cell? ⟨gb156, 0, none⟩ = some (.int .i64 a0_0) := (blk_cell BK156.out 0).trans rfl; have hcz60_1 : wc.cell? ⟨gb156, 1, none⟩ = some (.int .i64 a0_1) := (blk_cell BK156.out 1).trans rfl; have hcz60_2 : wc.cell? ⟨gb156, 2, none⟩ = some (.int .i64 a0_2) := (blk_cell BK156.out 2).trans rfl; have hfz60_0 := blk_frozen BK156.out 0; have hfz60_1 := blk_frozen BK156.out 1; have hfz60_2 := blk_frozen BK156.out 2; have hcz61_0 : wc.cell? ⟨gb157, 0, none⟩ = some (.int .i64 a1_0) := (blk_cell BK157.out 0).trans rfl; have hcz61_1 : wc.cell? ⟨gb157, 1, none⟩ = some (.int .i64 a1_1) := (blk_cell BK157.out 1).trans rfl; have hcz61_2 : wc.cell? ⟨gb157, 2, none⟩ = some (.int .i64 a1_2) := (blk_cell BK157.out 2).trans rfl; have hfz61_0 := blk_frozen BK157.out 0; have hfz61_1 := blk_frozen BK157.out 1; have hfz61_2 := blk_frozen BK157.out 2) | (go_at_call 12; (with_reducible refine (oriellaw03_alive.calls kj36  t170 _ ?sideT A58.out).mono ?_); (case sideT => first | exact HT.out | exact TabW.below HT.out (by repeat (first | (with_reducible first | exact HB.out | apply below_alloc | apply pw_below_drewN | apply below_drew1) | exact HB.out))); rintro e w62 ⟨rfl, hb⟩; have n0_ := Aside0.mk (blk_below (g := gb156) (o := .cells #[.int .i64 a0_0, .int .i64 a0_1, .int .i64 a0_2] 22 (0, 0)) (by (with_reducible repeat (first | refine blk_drewN ?_ _ | refine blk_drew ?_ | refine blk_alloc ?_ _)); exact BK156.out) hb); have n1_ := Aside0.mk (blk_below (g := gb157) (o := .cells #[.int .i64 a1_0, .int .i64 a1_1, .int .i64 a1_2] 22 (0, 0)) (by (with_reducible repeat (first | refine blk_drewN ?_ _ | refine blk_drew ?_ | refine blk_alloc ?_ _)); exact BK157.out) hb); have n2_ := Aside0.mk (below_step (by repeat (first | (with_reducible first | exact HB.out | apply below_alloc | apply pw_below_drewN | apply below_drew1 | refine below_set ?_ GE156.out | refine below_set ?_ GE157.out) | exact HB.out)) hb); clear BK156; clear BK157; clear HB; have BK156 := n0_; have BK157 := n1_; have HB := n2_; clear n0_ n1_ n2_; (try clear hb); (try clear hb2); (try clear hk); (try clear hi)))
                                go_ret
                                exact ⟨by first | rfl | (simp [errW_none, errW_some] <;> rfl) | (simp [*, errW_none, errW_some] <;> rfl), by repeat (first | (with_reducible first | exact HB.out | apply below_alloc | apply pw_below_drewN | apply below_drew1 | refine below_set ?_ GE156.out | refine below_set ?_ GE157.out) | exact HB.out)⟩
                              · rw [if_neg c57] at H
                                exact absurd H (by simp)
                            · rw [if_neg c56] at H
                              exact absurd H (by simp)
                          · rw [if_neg c55] at H
                            have c55b0 : decide (a0_1 < a1_1) = false := decide_eq_false c55
                            clear c55
                            by_cases c63 : a0_1 = a1_1
                            · rw [if_pos c63] at H
                              have c63b0 : (a0_1 == a1_1) = true := beq_iff_eq.mpr c63
                              have c63b1 : (a0_1 != a1_1) = false := bne_eq_false_iff_eq.mpr c63
                              clear c63
                              by_cases c64 : ((decide (t158 < t160)) == (decide (a0_2 < a1_2))) = true
                              · rw [if_pos c64] at H
                                have c64b0 : ((decide (t158 < t160)) == (decide (a0_2 < a1_2))) = true := c64
                                (try (have c64b1 : decide ((decide (t158 < t160)) = (decide (a0_2 < a1_2))) = true := by simpa using c64))
                                (try (have c64b2 : ((decide (t158 < t160)) == (decide (a0_2 < a1_2))) = true := by simpa using c64))
                                clear c64
                                by_cases c65 : ((t158 == t160) == (a0_0 == a1_0 && (a0_1 == a1_1 && (a0_2 == a1_2)))) = true
                                · rw [if_pos c65] at H
                                  have c65b0 : ((t158 == t160) == (a0_0 == a1_0 && (a0_1 == a1_1 && (a0_2 == a1_2)))) = true := c65
                                  (try (have c65b1 : decide ((t158 == t160) = (a0_0 == a1_0 && (a0_1 == a1_1 && (a0_2 == a1_2)))) = true := by simpa using c65))
                                  (try (have c65b2 : ((t158 == t160) == (a0_0 == a1_0 && (a0_1 == a1_1 && (a0_2 == a1_2)))) = true := by simpa using c65))
                                  have c65z := c65b0
                                  (try rw [show (a0_0 == a1_0) = true from by assumption, Bool.true_and] at c65z)
                                  (try rw [show (a0_0 == a1_0) = false from by assumption, Bool.false_and] at c65z)
                                  (try rw [show (a0_1 == a1_1) = true from by assumption, Bool.true_and] at c65z)
                                  (try rw [show (a0_1 == a1_1) = false from by assumption, Bool.false_and] at c65z)
                                  (try (have c65y : (t158 == t160) = false := by simpa using c65z))
                                  clear c65
                                  replace H := Option.bind_eq_some_iff.mp H
                                  obtain ⟨t171, A660, H⟩ := H
                                  replace H : (some t171) = some r := H
                                  have A66 := Aside0.mk A660
                                  clear A660
                                  obtain rfl := Option.some.inj H
                                  go_wp2_with (first | ((with_reducible refine gate_callee (f := 11) rfl ?_); refine goesL_ (some 123) rfl rfl Tryd.func11 (by kernel_rfl) rfl #[.int .i64 t161] rfl (by (try simp only [List.map_toArray, List.map_cons, List.map_nil]); first | done | rfl | (simp only [List.length_drop, List.length_take]; rfl)) ?_; (with_reducible refine (oriellaw01_No.calls t161 t168 _ A44.out).mono ?_); rintro e w' ⟨rfl, ⟨nd, rfl⟩⟩; refine ⟨_, rfl, ?_⟩; have hnb67 := NB156_157.out; have hnc67 := NB157_156.out; have hcz68_0 : wc.cell? ⟨gb156, 0, none⟩ = some (.int .i64 a0_0) := (blk_cell BK156.out 0).trans rfl; have hcz68_1 : wc.cell? ⟨gb156, 1, none⟩ = some (.int .i64 a0_1) := (blk_cell BK156.out 1).trans rfl; have hcz68_2 : wc.cell? ⟨gb156, 2, none⟩ = some (.int .i64 a0_2) := (blk_cell BK156.out 2).trans rfl; have hfz68_0 := blk_frozen BK156.out 0; have hfz68_1 := blk_frozen BK156.out 1; have hfz68_2 := blk_frozen BK156.out 2; have hcz69_0 : wc.cell? ⟨gb157, 0, none⟩ = some (.int .i64 a1_0) := (blk_cell BK157.out 0).trans rfl; have hcz69_1 : wc.cell? ⟨gb157, 1, none⟩ = some (.int .i64 a1_1) := (blk_cell BK157.out 1).trans rfl; have hcz69_2 : wc.cell? ⟨gb157, 2, none⟩ = some (.int .i64 a1_2) := (blk_cell BK157.out 2).trans rfl; have hfz69_0 := blk_frozen BK157.out 0; have hfz69_1 := blk_frozen BK157.out 1; have hfz69_2 := blk_frozen BK157.out 2) | (go_at_call 12; (with_reducible refine (oriellaw03_alive.calls kj36  t171 _ ?sideT A66.out).mono ?_); (case sideT => first | exact HT.out | exact TabW.below HT.out (by repeat (first | (with_reducible first | exact HB.out | apply below_alloc | apply pw_below_drewN | apply below_drew1) | exact HB.out))); rintro e w70 ⟨rfl, hb⟩; have n0_ := Aside0.mk (blk_below (g := gb156) (o := .cells #[.int .i64 a0_0, .int .i64 a0_1, .int .i64 a0_2] 22 (0, 0)) (by (with_reducible repeat (first | refine blk_drewN ?_ _ | refine blk_drew ?_ | refine blk_alloc ?_ _)); exact BK156.out) hb); have n1_ := Aside0.mk (blk_below (g := gb157) (o := .cells #[.int .i64 a1_0, .int .i64 a1_1, .int .i64 a1_2] 22 (0, 0)) (by (with_reducible repeat (first | refine blk_drewN ?_ _ | refine blk_drew ?_ | refine blk_alloc ?_ _)); exact BK157.out) hb); have n2_ := Aside0.mk (below_step (by repeat (first | (with_reducible first | exact HB.out | apply below_alloc | apply pw_below_drewN | apply below_drew1 | refine below_set ?_ GE156.out | refine below_set ?_ GE157.out) | exact HB.out)) hb); clear BK156; clear BK157; clear HB; have BK156 := n0_; have BK157 := n1_; have HB := n2_; clear n0_ n1_ n2_; (try clear hb); (try clear hb2); (try clear hk); (try clear hi)))
                                  go_ret
                                  exact ⟨by first | rfl | (simp [errW_none, errW_some] <;> rfl) | (simp [*, errW_none, errW_some] <;> rfl), by repeat (first | (with_reducible first | exact HB.out | apply below_alloc | apply pw_below_drewN | apply below_drew1 | refine below_set ?_ GE156.out | refine below_set ?_ GE157.out) | exact HB.out)⟩
                                · rw [if_neg c65] at H
                                  exact absurd H (by simp)
                              · rw [if_neg c64] at H
                                exact absurd H (by simp)
                            · rw [if_neg c63] at H
                              have c63b0 : (a0_1 == a1_1) = false := beq_eq_false_iff_ne.mpr c63
                              have c63b1 : (a0_1 != a1_1) = true := bne_iff_ne.mpr c63
                              by_cases c71 : ((decide (t158 < t160)) == false) = true
                              · rw [if_pos c71] at H
                                have c71b0 : ((decide (t158 < t160)) == false) = true := c71
                                (try (have c71b1 : decide ((decide (t158 < t160)) = false) = true := by simpa using c71))
                                (try (have c71b2 : ((decide (t158 < t160)) == false) = true := by simpa using c71))
                                clear c71
                                by_cases c72 : ((t158 == t160) == (a0_0 == a1_0 && (a0_1 == a1_1 && (a0_2 == a1_2)))) = true
                                · rw [if_pos c72] at H
                                  have c72b0 : ((t158 == t160) == (a0_0 == a1_0 && (a0_1 == a1_1 && (a0_2 == a1_2)))) = true := c72
                                  (try (have c72b1 : decide ((t158 == t160) = (a0_0 == a1_0 && (a0_1 == a1_1 && (a0_2 == a1_2)))) = true := by simpa using c72))
                                  (try (have c72b2 : ((t158 == t160) == (a0_0 == a1_0 && (a0_1 == a1_1 && (a0_2 == a1_2)))) = true := by simpa using c72))
                                  have c72z := c72b0
                                  (try rw [show (a0_0 == a1_0) = true from by assumption, Bool.true_and] at c72z)
                                  (try rw [show (a0_0 == a1_0) = false from by assumption, Bool.false_and] at c72z)
                                  (try rw [show (a0_1 == a1_1) = true from by assumption, Bool.true_and] at c72z)
                                  (try rw [show (a0_1 == a1_1) = false from by assumption, Bool.false_and] at c72z)
                                  (try (have c72y : (t158 == t160) = false := by simpa using c72z))
                                  clear c72
                                  replace H := Option.bind_eq_some_iff.mp H
                                  obtain ⟨t172, A730, H⟩ := H
                                  replace H : (some t172) = some r := H
                                  have A73 := Aside0.mk A730
                                  clear A730
                                  obtain rfl := Option.some.inj H
                                  go_wp2_with (first | ((with_reducible refine gate_callee (f := 11) rfl ?_); refine goesL_ (some 123) rfl rfl Tryd.func11 (by kernel_rfl) rfl #[.int .i64 t161] rfl (by (try simp only [List.map_toArray, List.map_cons, List.map_nil]); first | done | rfl | (simp only [List.length_drop, List.length_take]; rfl)) ?_; (with_reducible refine (oriellaw01_No.calls t161 t168 _ A44.out).mono ?_); rintro e w' ⟨rfl, ⟨nd, rfl⟩⟩; refine ⟨_, rfl, ?_⟩; have hnb74 := NB156_157.out; have hnc74 := NB157_156.out; have hcz75_0 : wc.cell? ⟨gb156, 0, none⟩ = some (.int .i64 a0_0) := (blk_cell BK156.out 0).trans rfl; have hcz75_1 : wc.cell? ⟨gb156, 1, none⟩ = some (.int .i64 a0_1) := (blk_cell BK156.out 1).trans rfl; have hcz75_2 : wc.cell? ⟨gb156, 2, none⟩ = some (.int .i64 a0_2) := (blk_cell BK156.out 2).trans rfl; have hfz75_0 := blk_frozen BK156.out 0; have hfz75_1 := blk_frozen BK156.out 1; have hfz75_2 := blk_frozen BK156.out 2; have hcz76_0 : wc.cell? ⟨gb157, 0, none⟩ = some (.int .i64 a1_0) := (blk_cell BK157.out 0).trans rfl; have hcz76_1 : wc.cell? ⟨gb157, 1, none⟩ = some (.int .i64 a1_1) := (blk_cell BK157.out 1).trans rfl; have hcz76_2 : wc.cell? ⟨gb157, 2, none⟩ = some (.int .i64 a1_2) := (blk_cell BK157.out 2).trans rfl; have hfz76_0 := blk_frozen BK157.out 0; have hfz76_1 := blk_frozen BK157.out 1; have hfz76_2 := blk_frozen BK157.out 2) | (go_at_call 12; (with_reducible refine (oriellaw03_alive.calls kj36  t172 _ ?sideT A73.out).mono ?_); (case sideT => first | exact HT.out | exact TabW.below HT.out (by repeat (first | (with_reducible first | exact HB.out | apply below_alloc | apply pw_below_drewN | apply below_drew1) | exact HB.out))); rintro e w77 ⟨rfl, hb⟩; have n0_ := Aside0.mk (blk_below (g := gb156) (o := .cells #[.int .i64 a0_0, .int .i64 a0_1, .int .i64 a0_2] 22 (0, 0)) (by (with_reducible repeat (first | refine blk_drewN ?_ _ | refine blk_drew ?_ | refine blk_alloc ?_ _)); exact BK156.out) hb); have n1_ := Aside0.mk (blk_below (g := gb157) (o := .cells #[.int .i64 a1_0, .int .i64 a1_1, .int .i64 a1_2] 22 (0, 0)) (by (with_reducible repeat (first | refine blk_drewN ?_ _ | refine blk_drew ?_ | refine blk_alloc ?_ _)); exact BK157.out) hb); have n2_ := Aside0.mk (below_step (by repeat (first | (with_reducible first | exact HB.out | apply below_alloc | apply pw_below_drewN | apply below_drew1 | refine below_set ?_ GE156.out | refine below_set ?_ GE157.out) | exact HB.out)) hb); clear BK156; clear BK157; clear HB; have BK156 := n0_; have BK157 := n1_; have HB := n2_; clear n0_ n1_ n2_; (try clear hb); (try clear hb2); (try clear hk); (try clear hi)))
                                  go_ret
                                  exact ⟨by first | rfl | (simp [errW_none, errW_some] <;> rfl) | (simp [*, errW_none, errW_some] <;> rfl), by repeat (first | (with_reducible first | exact HB.out | apply below_alloc | apply pw_below_drewN | apply below_drew1 | refine below_set ?_ GE156.out | refine below_set ?_ GE157.out) | exact HB.out)⟩
                                · rw [if_neg c72] at H
                                  exact absurd H (by simp)
                              · rw [if_neg c71] at H
                                exact absurd H (by simp)
                        · rw [if_neg c54] at H
                          have c54b0 : (a0_0 == a1_0) = false := beq_eq_false_iff_ne.mpr c54
                          have c54b1 : (a0_0 != a1_0) = true := bne_iff_ne.mpr c54
                          by_cases c78 : ((decide (t158 < t160)) == false) = true
                          · rw [if_pos c78] at H
                            have c78b0 : ((decide (t158 < t160)) == false) = true := c78
                            (try (have c78b1 : decide ((decide (t158 < t160)) = false) = true := by simpa using c78))
                            (try (have c78b2 : ((decide (t158 < t160)) == false) = true := by simpa using c78))
                            clear c78
                            by_cases c79 : ((t158 == t160) == (a0_0 == a1_0 && (a0_1 == a1_1 && (a0_2 == a1_2)))) = true
                            · rw [if_pos c79] at H
                              have c79b0 : ((t158 == t160) == (a0_0 == a1_0 && (a0_1 == a1_1 && (a0_2 == a1_2)))) = true := c79
                              (try (have c79b1 : decide ((t158 == t160) = (a0_0 == a1_0 && (a0_1 == a1_1 && (a0_2 == a1_2)))) = true := by simpa using c79))
                              (try (have c79b2 : ((t158 == t160) == (a0_0 == a1_0 && (a0_1 == a1_1 && (a0_2 == a1_2)))) = true := by simpa using c79))
                              have c79z := c79b0
                              (try rw [show (a0_0 == a1_0) = true from by assumption, Bool.true_and] at c79z)
                              (try rw [show (a0_0 == a1_0) = false from by assumption, Bool.false_and] at c79z)
                              (try rw [show (a0_1 == a1_1) = true from by assumption, Bool.true_and] at c79z)
                              (try rw [show (a0_1 == a1_1) = false from by assumption, Bool.false_and] at c79z)
                              (try (have c79y : (t158 == t160) = false := by simpa using c79z))
                              clear c79
                              replace H := Option.bind_eq_some_iff.mp H
                              obtain ⟨t173, A800, H⟩ := H
                              replace H : (some t173) = some r := H
                              have A80 := Aside0.mk A800
                              clear A800
                              obtain rfl := Option.some.inj H
                              go_wp2_with (first | ((with_reducible refine gate_callee (f := 11) rfl ?_); refine goesL_ (some 123) rfl rfl Tryd.func11 (by kernel_rfl) rfl #[.int .i64 t161] rfl (by (try simp only [List.map_toArray, List.map_cons, List.map_nil]); first | done | rfl | (simp only [List.length_drop, List.length_take]; rfl)) ?_; (with_reducible refine (oriellaw01_No.calls t161 t168 _ A44.out).mono ?_); rintro e w' ⟨rfl, ⟨nd, rfl⟩⟩; refine ⟨_, rfl, ?_⟩; have hnb81 := NB156_157.out; have hnc81 := NB157_156.out; have hcz82_0 : wc.cell? ⟨gb156, 0, none⟩ = some (.int .i64 a0_0) := (blk_cell BK156.out 0).trans rfl; have hcz82_1 : wc.cell? ⟨gb156, 1, none⟩ = some (.int .i64 a0_1) := (blk_cell BK156.out 1).trans rfl; have hcz82_2 : wc.cell? ⟨gb156, 2, none⟩ = some (.int .i64 a0_2) := (blk_cell BK156.out 2).trans rfl; have hfz82_0 := blk_frozen BK156.out 0; have hfz82_1 := blk_frozen BK156.out 1; have hfz82_2 := blk_frozen BK156.out 2; have hcz83_0 : wc.cell? ⟨gb157, 0, none⟩ = some (.int .i64 a1_0) := (blk_cell BK157.out 0).trans rfl; have hcz83_1 : wc.cell? ⟨gb157, 1, none⟩ = some (.int .i64 a1_1) := (blk_cell BK157.out 1).trans rfl; have hcz83_2 : wc.cell? ⟨gb157, 2, none⟩ = some (.int .i64 a1_2) := (blk_cell BK157.out 2).trans rfl; have hfz83_0 := blk_frozen BK157.out 0; have hfz83_1 := blk_frozen BK157.out 1; have hfz83_2 := blk_frozen BK157.out 2) | (go_at_call 12; (with_reducible refine (oriellaw03_alive.calls kj36  t173 _ ?sideT A80.out).mono ?_); (case sideT => first | exact HT.out | exact TabW.below HT.out (by repeat (first | (with_reducible first | exact HB.out | apply below_alloc | apply pw_below_drewN | apply below_drew1) | exact HB.out))); rintro e w84 ⟨rfl, hb⟩; have n0_ := Aside0.mk (blk_below (g := gb156) (o := .cells #[.int .i64 a0_0, .int .i64 a0_1, .int .i64 a0_2] 22 (0, 0)) (by (with_reducible repeat (first | refine blk_drewN ?_ _ | refine blk_drew ?_ | refine blk_alloc ?_ _)); exact BK156.out) hb); have n1_ := Aside0.mk (blk_below (g := gb157) (o := .cells #[.int .i64 a1_0, .int .i64 a1_1, .int .i64 a1_2] 22 (0, 0)) (by (with_reducible repeat (first | refine blk_drewN ?_ _ | refine blk_drew ?_ | refine blk_alloc ?_ _)); exact BK157.out) hb); have n2_ := Aside0.mk (below_step (by repeat (first | (with_reducible first | exact HB.out | apply below_alloc | apply pw_below_drewN | apply below_drew1 | refine below_set ?_ GE156.out | refine below_set ?_ GE157.out) | exact HB.out)) hb); clear BK156; clear BK157; clear HB; have BK156 := n0_; have BK157 := n1_; have HB := n2_; clear n0_ n1_ n2_; (try clear hb); (try clear hb2); (try clear hk); (try clear hi)))
                              go_ret
                              exact ⟨by first | rfl | (simp [errW_none, errW_some] <;> rfl) | (simp [*, errW_none, errW_some] <;> rfl), by repeat (first | (with_reducible first | exact HB.out | apply below_alloc | apply pw_below_drewN | apply below_drew1 | refine below_set ?_ GE156.out | refine below_set ?_ GE157.out) | exact HB.out)⟩
                            · rw [if_neg c79] at H
                              exact absurd H (by simp)
                          · rw [if_neg c78] at H
                            exact absurd H (by simp)
                    · rw [if_neg c45] at H
                      have c45b0 : (t168 == 0) = false := beq_eq_false_iff_ne.mpr c45
                      have c45b1 : (t168 != 0) = true := bne_iff_ne.mpr c45
                      replace H := Option.bind_eq_some_iff.mp H
                      obtain ⟨t174, A850, H⟩ := H
                      replace H : (some t174) = some r := H
                      have A85 := Aside0.mk A850
                      clear A850
                      obtain rfl := Option.some.inj H
                      go_wp2_with (first | ((with_reducible refine gate_callee (f := 11) rfl ?_); refine goesL_ (some 123) rfl rfl Tryd.func11 (by kernel_rfl) rfl #[.int .i64 t161] rfl (by (try simp only [List.map_toArray, List.map_cons, List.map_nil]); first | done | rfl | (simp only [List.length_drop, List.length_take]; rfl)) ?_; (with_reducible refine (oriellaw01_No.calls t161 t168 _ A44.out).mono ?_); rintro e w' ⟨rfl, ⟨nd, rfl⟩⟩; refine ⟨_, rfl, ?_⟩) | ((with_reducible refine gate_callee (f := 12) rfl ?_); refine goesL_ (some 125) rfl rfl Tryd.func12 (by kernel_rfl) rfl #[] rfl (by (try simp only [List.map_toArray, List.map_cons, List.map_nil]); first | done | rfl | (simp only [List.length_drop, List.length_take]; rfl)) ?_; (with_reducible refine (oriellaw03_alive.calls kj36  t174 _ ?sideT A85.out).mono ?_); (case sideT => first | exact HT.out | exact TabW.below HT.out (by repeat (first | (with_reducible first | exact HB.out | apply below_alloc | apply pw_below_drewN | apply below_drew1) | exact HB.out))); rintro e w86 ⟨rfl, hb⟩; refine ⟨_, rfl, ?_⟩; have n0_ := Aside0.mk (blk_below (g := gb156) (o := .cells #[.int .i64 a0_0, .int .i64 a0_1, .int .i64 a0_2] 22 (0, 0)) (by (with_reducible repeat (first | refine blk_drewN ?_ _ | refine blk_drew ?_ | refine blk_alloc ?_ _)); exact BK156.out) hb); have n1_ := Aside0.mk (blk_below (g := gb157) (o := .cells #[.int .i64 a1_0, .int .i64 a1_1, .int .i64 a1_2] 22 (0, 0)) (by (with_reducible repeat (first | refine blk_drewN ?_ _ | refine blk_drew ?_ | refine blk_alloc ?_ _)); exact BK157.out) hb); have n2_ := Aside0.mk (below_step (by repeat (first | (with_reducible first | exact HB.out | apply below_alloc | apply pw_below_drewN | apply below_drew1 | refine below_set ?_ GE156.out | refine below_set ?_ GE157.out) | exact HB.out)) hb); clear BK156; clear BK157; clear HB; have BK156 := n0_; have BK157 := n1_; have HB := n2_; clear n0_ n1_ n2_; (try clear hb); (try clear hb2); (try clear hk); (try clear hi)))
                      go_ret
                      exact ⟨by first | rfl | (simp [errW_none, errW_some] <;> rfl) | (simp [*, errW_none, errW_some] <;> rfl), by repeat (first | (with_reducible first | exact HB.out | apply below_alloc | apply pw_below_drewN | apply below_drew1 | refine below_set ?_ GE156.out | refine below_set ?_ GE157.out) | exact HB.out)⟩
            · replace c35 := Bool.eq_false_iff.mpr c35
              subst c35
              have H1 : ((oriellaw03_alive.f kj27).bind fun t164 => (some t164)) = some r := by rw [if_neg (show ¬ (false = true) by decide)] at H; exact H
              clear H
              have H := H1
              clear H1
              replace H := Option.bind_eq_some_iff.mp H
              obtain ⟨t164, A870, H⟩ := H
              replace H : (some t164) = some r := H
              have A87 := Aside0.mk A870
              clear A870
              obtain rfl := Option.some.inj H
              go_wp2_with (first | ((with_reducible refine gate_callee (f := 12) rfl ?_); refine goesL_ (some 82) rfl rfl Tryd.func12 (by kernel_rfl) rfl #[] rfl (by (try simp only [List.map_toArray, List.map_cons, List.map_nil]); first | done | rfl | (simp only [List.length_drop, List.length_take]; rfl)) ?_; (with_reducible refine (oriellaw03_alive.calls kj27  t164 _ ?sideT A87.out).mono ?_); (case sideT => first | exact HT.out | exact TabW.below HT.out (by repeat (first | (with_reducible first | exact HB.out | apply below_alloc | apply pw_below_drewN | apply below_drew1) | exact HB.out))); rintro e w88 ⟨rfl, hb⟩; refine ⟨_, rfl, ?_⟩; have n0_ := Aside0.mk (blk_below (g := gb156) (o := .cells #[.int .i64 a0_0, .int .i64 a0_1, .int .i64 a0_2] 22 (0, 0)) (by (with_reducible repeat (first | refine blk_drewN ?_ _ | refine blk_drew ?_ | refine blk_alloc ?_ _)); exact BK156.out) hb); have n1_ := Aside0.mk (blk_below (g := gb157) (o := .cells #[.int .i64 a1_0, .int .i64 a1_1, .int .i64 a1_2] 22 (0, 0)) (by (with_reducible repeat (first | refine blk_drewN ?_ _ | refine blk_drew ?_ | refine blk_alloc ?_ _)); exact BK157.out) hb); have n2_ := Aside0.mk (below_step (by repeat (first | (with_reducible first | exact HB.out | apply below_alloc | apply pw_below_drewN | apply below_drew1 | refine below_set ?_ GE156.out | refine below_set ?_ GE157.out) | exact HB.out)) hb); clear BK156; clear BK157; clear HB; have BK156 := n0_; have BK157 := n1_; have HB := n2_; clear n0_ n1_ n2_; (try clear hb); (try clear hb2); (try clear hk); (try clear hi)))
              go_ret
              exact ⟨by first | rfl | (simp [errW_none, errW_some] <;> rfl) | (simp [*, errW_none, errW_some] <;> rfl), by repeat (first | (with_reducible first | exact HB.out | apply below_alloc | apply pw_below_drewN | apply below_drew1 | refine below_set ?_ GE156.out | refine below_set ?_ GE157.out) | exact HB.out)⟩

end Go.Proofs.YtjekpecobkaaoaaDoor.PPl
