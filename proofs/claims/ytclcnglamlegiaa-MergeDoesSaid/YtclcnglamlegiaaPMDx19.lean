-- Written by ownprint.py, a program of this session (out of the kit's print, with contracts of the session's own).
import Derived.Test.YtclcnglamlegiaaWMore
import Derived.Test.YtclcnglamlegiaaPMDx0
import Derived.Test.YtclcnglamlegiaaPMDx17
import Derived.Test.YtclcnglamlegiaaPMDx18
namespace Go.Proofs.Ytclcnglamlegiaa.PMD
open Go.RowKit Go.Proofs.YtclcnglamlegiaaW.PrintWords Go.Proofs.YtclcnglamlegiaaW.PrintLast Go.Proofs.YtclcnglamlegiaaW.PrintMore
attribute [local go_sem] max2_int min2_int max_two min_two max_three min_three max_four min_four   -- for this text's walks alone
set_option linter.unusedVariables false
set_option linter.unusedSimpArgs false
/-! ### orielref17_Check: function 24 -/
mutual
def orielref17_Check.l0 : Nat → List (S36) → List (S34) → Int → Option (Int × Int × Int)
 | 0, _, _, _ => none
 | k + 1, x0, x1, x5 => if x5 < (x1.length : Int) then (if 0 ≤ x5 then (if ((rd_T34 x1 x5).f0) < 0 then (some (2, (rd_T34 x1 x5).f0, (rd_T34 x1 x5).f1)) else (if ((rd_T34 x1 x5).f0) ≥ (x0.length : Int) then (some (2, (rd_T34 x1 x5).f0, (rd_T34 x1 x5).f1)) else (orielref17_Check.l0 k x0 x1 (wrap64 (x5 + 1))))) else (none)) else (orielref17_Check.l1 k x0 x1 1)
def orielref17_Check.l1 : Nat → List (S36) → List (S34) → Int → Option (Int × Int × Int)
 | 0, _, _, _ => none
 | k + 1, x0, x1, x6 => if x6 < (x1.length : Int) then (if 0 ≤ x6 then (if 0 ≤ (wrap64 (x6 - 1)) then (if (wrap64 (x6 - 1)) < (x1.length : Int) then (if ((rd_T34 x1 x6).f0) < ((rd_T34 x1 (wrap64 (x6 - 1))).f0) then (some (3, (rd_T34 x1 x6).f0, (rd_T34 x1 x6).f1)) else (orielref17_Check.l1 k x0 x1 (wrap64 (x6 + 1)))) else (none)) else (none)) else (none)) else (orielref17_Check.l2 k x0 x1 0)
def orielref17_Check.l2 : Nat → List (S36) → List (S34) → Int → Option (Int × Int × Int)
 | 0, _, _, _ => none
 | k + 1, x0, x1, x7 => if x7 < (x0.length : Int) then (if 0 ≤ x7 then ((orielref17_Of.f k x7 x1).bind fun t201 => ((orielref02_Check.f k (((rd_T36 x0 x7).f1).size : Int) t201).bind fun t204 => (if t204 = 0 then (orielref17_Check.l2 k x0 x1 (wrap64 (x7 + 1))) else (some (t204, x7, 0))))) else (none)) else (some (0, 0, 0))
end
def orielref17_Check.f (k : Nat) (l0 : List (S36)) (l1 : List (S34)) : Option (Int × Int × Int) := orielref17_Check.l0 k l0 l1 0
def orielref17_Check.T5 : Bool × List (List Nat × List Nat) := (true, [([], []), ([], []), ([0, 1], [0, 1]), ([2], [2]), ([3], [3]), ([], []), ([], []), ([5, 6], [5, 6]), ([7], [7]), ([8], [8]), ([4, 9], [4, 9]), ([10, 0, 1, 2, 3, 4, 5, 6, 7, 8, 9, 10], [10])])
def orielref17_Check.B5 : List Nat := [0, 0, 3, 7, 15, 0, 0, 96, 224, 480, 1023, 2047]
theorem orielref17_Check.tab5 : rtab .any (opsOf Try.f24 5) = orielref17_Check.T5 := by kernel_rfl
theorem orielref17_Check.bits5 : waitsOk orielref17_Check.T5.2 orielref17_Check.B5 = true := by kernel_rfl
def orielref17_Check.T9 : Bool × List (List Nat × List Nat) := (true, [([], []), ([], []), ([0, 1], [0, 1]), ([2], [2]), ([3], [3]), ([], []), ([], []), ([6], [6]), ([5, 7], [5, 7]), ([8], [8]), ([9], [9]), ([4, 10], [4, 10])])
def orielref17_Check.B9 : List Nat := [0, 0, 3, 7, 15, 0, 0, 64, 224, 480, 992, 2047]
theorem orielref17_Check.tab9 : rtab .any (opsOf Try.f24 9) = orielref17_Check.T9 := by kernel_rfl
theorem orielref17_Check.bits9 : waitsOk orielref17_Check.T9.2 orielref17_Check.B9 = true := by kernel_rfl
def orielref17_Check.T10 : Bool × List (List Nat × List Nat) := (true, [([], []), ([], []), ([0, 1], [0, 1]), ([2], [2]), ([3], [3]), ([], []), ([], []), ([5, 6], [5, 6]), ([7], [7]), ([8], [8]), ([4, 9], [4, 9]), ([10, 0, 1, 2, 3, 4, 5, 6, 7, 8, 9, 10], [10])])
def orielref17_Check.B10 : List Nat := [0, 0, 3, 7, 15, 0, 0, 96, 224, 480, 1023, 2047]
theorem orielref17_Check.tab10 : rtab .any (opsOf Try.f24 10) = orielref17_Check.T10 := by kernel_rfl
theorem orielref17_Check.bits10 : waitsOk orielref17_Check.T10.2 orielref17_Check.B10 = true := by kernel_rfl
def orielref17_Check.T14 : Bool × List (List Nat × List Nat) := (true, [([], []), ([], []), ([0, 1], [0, 1]), ([2], [2]), ([3], [3]), ([4], [4]), ([], []), ([], []), ([6, 7], [6, 7]), ([5, 8, 8], [5, 8]), ([9, 9, 0, 1, 2, 3, 4, 5, 6, 7, 8, 9], [9])])
def orielref17_Check.B14 : List Nat := [0, 0, 3, 7, 15, 31, 0, 0, 192, 511, 1023]
theorem orielref17_Check.tab14 : rtab .any (opsOf Try.f24 14) = orielref17_Check.T14 := by kernel_rfl
theorem orielref17_Check.bits14 : waitsOk orielref17_Check.T14.2 orielref17_Check.B14 = true := by kernel_rfl
set_option maxHeartbeats 8000000 in
set_option maxRecDepth 100000 in
theorem orielref17_Check.calls (k : Nat) (A0 : Option Addr) (c0 : Nat) (l0 : List (S36)) (A1 : Option Addr) (c1 : Nat) (l1 : List (S34)) (r1 : Int) (r2 : Int) (r3 : Int) (w : World) (hr0 : Kd.C k36 w A0 l0.length l0) (hc0 : l0.length ≤ c0) (hr1 : Kd.C k34 w A1 l1.length l1) (hc1 : l1.length ≤ c1) (h : orielref17_Check.f k l0 l1 = some (r1, r2, r3)) :
  Calls Try.prog 24 #[.slice A0 l0.length c0, .slice A1 l1.length c1] w fun e w' => e = .returned (.agg #[.int .i64 r1, .int .i64 r2, .int .i64 r3]) ∧ Below w.heap.size w w' := by
 have hu30 := Try.underlying30
 have HR0 := a0_ hr0
 have HC0 := a0_ hc0
 clear hr0 hc0
 have HR1 := a0_ hr1
 have HC1 := a0_ hc1
 clear hr1 hc1
 have HB := a0_ (Below.refl w.heap.size w)
 have H : (orielref17_Check.l0 k l0 l1 0) = some (r1, r2, r3) := h
 clear h
 have H' := a0_ H
 clear H
 go_enter Try.func24, Try.ntmps24
 go_wp2_with (first | ((with_reducible refine gate_dst (N := 4) rfl ?_); (try (refine gate_guard (by rfl) ?_; dsimp only)); refine box_event ?hg (N := 4) ?hd (cs := #[.int .i64 0, .int .i64 0, .int .i64 0]) (t := 30) ?hr ?_; (case hd => rfl); (case hg => rfl); (case hr => first | (go_simp; done) | (go_simp; rfl)); intro gb189 hg w3 hbox hb; have BK189 := a0_ (hbox); have GW189 := a0_ ((by rw [hg]; exact (bZ_ (by exact HB.out)) : w.heap.size ≤ gb189)); have GE189 := a0_ ((by rw [hg]; exact (bZ_ (by exact HB.out)) : w.heap.size ≤ gb189)); replace HB := a0_ (bT_ (by exact HB.out) hb); clear hb hbox hg))
 go_loopg [5] k (fun kq v5 w' => ∃ (x5_1 : Int) (x190000_1 : Int) (x190001_1 : Int) (x190002_1 : Int), v5 = .int .i64 x5_1 ∧ Aside0 (orielref17_Check.l0 kq l0 l1 x5_1 = some (r1, r2, r3)) ∧ Aside0 (kq ≤ k) ∧ Aside0 (w'.heap[gb189]? = some (.cells #[.int .i64 x190000_1, .int .i64 x190001_1, .int .i64 x190002_1] 30 (0, 0))) ∧ Aside0 (Below w.heap.size w w'))
 case atStart => exact ⟨(0), (0), (0), (0), (by first | rfl | (simp; done) | (simp [*]; done)), H', ⟨Nat.le_refl _⟩, ⟨by exact BK189.out⟩, ⟨by exact HB.out⟩⟩
 case round =>
  clear H'
  obtain ⟨x5_1, x190000_1, x190001_1, x190002_1, rfl, HA, HK1, BK189, HB⟩ := hrel
  cases gk with
  | zero => exact absurd HA.out (by simp [orielref17_Check.l0])
  | succ k1 =>
   have H := HA.out
   clear HA
   simp only [orielref17_Check.l0] at H
   by_cases c4 : x5_1 < (l1.length : Int)
   ·rw [if_pos c4] at H
    have c4b0 := decide_eq_true c4
    clear c4
    by_cases c5 : 0 ≤ x5_1
    ·rw [if_pos c5] at H
     have c5b0 := decide_eq_true c5
     clear c5
     by_cases c6 : ((rd_T34 l1 x5_1).f0) < 0
     ·rw [if_pos c6] at H
      have c6b0 := decide_eq_true c6
      clear c6
      simp only [Option.some.injEq, Prod.mk.injEq] at H
      obtain ⟨rfl, rfl, rfl⟩ := H
      have p190 : 0 ≤ (x5_1 : Int) := od_ (by assumption)
      have q190 : x5_1 < (l1.length : Int) := od_ (by assumption)
      obtain ⟨ad190, e190, hx190_0, hx190_1, hx190_2, hx190_3⟩ := at_T34 HR1.out x5_1 p190 q190
      cases e190
      replace hx190_0 := (HB.out.cell (bl_ w _ hx190_0)).trans hx190_0
      replace hx190_1 := (HB.out.cell (bl_ w _ hx190_1)).trans hx190_1
      replace hx190_2 := (HB.out.cell (bl_ w _ hx190_2)).trans hx190_2
      replace hx190_3 := (HB.out.cell (bl_ w _ hx190_3)).trans hx190_3
      replace p190 := eq_true p190
      replace q190 := eq_true q190
      try go_wp2
      replace BK189 := a0_ (kD_ BK189.out)
      replace HB := a0_ (bD_ HB.out)
      have p191 : 0 ≤ (x5_1 : Int) := od_ (by assumption)
      have q191 : x5_1 < (l1.length : Int) := od_ (by assumption)
      obtain ⟨ad191, e191, hx191_0, hx191_1, hx191_2, hx191_3⟩ := at_T34 HR1.out x5_1 p191 q191
      have hw191_3 := hx191_3
      have hw191_2 := hx191_2
      have hw191_1 := hx191_1
      have hw191_0 := hx191_0
      obtain rfl : ad190 = ad191 := (by injection e191)
      replace hx191_0 := (HB.out.cell (bl_ w _ hx191_0)).trans hx191_0
      replace hx191_1 := (HB.out.cell (bl_ w _ hx191_1)).trans hx191_1
      replace hx191_2 := (HB.out.cell (bl_ w _ hx191_2)).trans hx191_2
      replace hx191_3 := (HB.out.cell (bl_ w _ hx191_3)).trans hx191_3
      replace p191 := eq_true p191
      replace q191 := eq_true q191
      have p192 : 0 ≤ (x5_1 : Int) := od_ (by assumption)
      have q192 : x5_1 < (l1.length : Int) := od_ (by assumption)
      obtain ⟨ad192, e192, hx192_0, hx192_1, hx192_2, hx192_3⟩ := at_T34 HR1.out x5_1 p192 q192
      have hw192_3 := hx192_3
      have hw192_2 := hx192_2
      have hw192_1 := hx192_1
      have hw192_0 := hx192_0
      obtain rfl : ad190 = ad192 := (by injection e192)
      replace hx192_0 := (HB.out.cell (bl_ w _ hx192_0)).trans hx192_0
      replace hx192_1 := (HB.out.cell (bl_ w _ hx192_1)).trans hx192_1
      replace hx192_2 := (HB.out.cell (bl_ w _ hx192_2)).trans hx192_2
      replace hx192_3 := (HB.out.cell (bl_ w _ hx192_3)).trans hx192_3
      replace p192 := eq_true p192
      replace q192 := eq_true q192
      refine start_ (n := 12) (S := fun w' => w'.cell? (ad190.add ((x5_1).toNat * 4)) = some (.int .i64 ((rd_T34 l1 x5_1).f0)) ∧ w'.cell? ⟨(ad190.add ((x5_1).toNat * 4)).block, (ad190.add ((x5_1).toNat * 4)).off + 1, none⟩ = some (.int .i64 ((rd_T34 l1 x5_1).f1)) ∧ w'.cell? ⟨(ad190.add ((x5_1).toNat * 4)).block, (ad190.add ((x5_1).toNat * 4)).off + 2, none⟩ = some (.int .i64 ((rd_T34 l1 x5_1).f2)) ∧ w'.cell? ⟨(ad190.add ((x5_1).toNat * 4)).block, (ad190.add ((x5_1).toNat * 4)).off + 3, none⟩ = some (.string ((rd_T34 l1 x5_1).f3)) ∧ w'.cell? (ad190.add ((x5_1).toNat * 4)) = some (.int .i64 ((rd_T34 l1 x5_1).f0)) ∧ w'.cell? ⟨(ad190.add ((x5_1).toNat * 4)).block, (ad190.add ((x5_1).toNat * 4)).off + 1, none⟩ = some (.int .i64 ((rd_T34 l1 x5_1).f1)) ∧ w'.cell? ⟨(ad190.add ((x5_1).toNat * 4)).block, (ad190.add ((x5_1).toNat * 4)).off + 2, none⟩ = some (.int .i64 ((rd_T34 l1 x5_1).f2)) ∧ w'.cell? ⟨(ad190.add ((x5_1).toNat * 4)).block, (ad190.add ((x5_1).toNat * 4)).off + 3, none⟩ = some (.string ((rd_T34 l1 x5_1).f3))) (ds := []) #[false, false, false, false, false, false, false, false, false, false, false, false] (by kernel_rfl) rfl rfl ⟨((HB.out.cell (bl_ w _ hw191_0)).trans hw191_0), ((HB.out.cell (bl_ w _ hw191_1)).trans hw191_1), ((HB.out.cell (bl_ w _ hw191_2)).trans hw191_2), ((HB.out.cell (bl_ w _ hw191_3)).trans hw191_3), ((HB.out.cell (bl_ w _ hw192_0)).trans hw192_0), ((HB.out.cell (bl_ w _ hw192_1)).trans hw192_1), ((HB.out.cell (bl_ w _ hw192_2)).trans hw192_2), ((HB.out.cell (bl_ w _ hw192_3)).trans hw192_3)⟩ (fun hHeld => ?_); refine with_tabW orielref17_Check.tab5 orielref17_Check.bits5 (fun HT_ HW_ => ?_)
      generalize wr.drew = w7 at BK189 HB hx191_0 hx191_1 hx191_2 hx191_3 hx192_0 hx192_1 hx192_2 hx192_3 hHeld ⊢
      refine pure_ (i := 0) (N := some 31) #[true, false, false, false, false, false, false, false, false, false, false, false] rfl rfl (any_of HT_.out (by kernel_rfl)) (fun _ _ _ h => h) (Or.inl ⟨by rfl, fun w' => by go_simp; with_reducible rfl⟩) (by simp only [ps_]; rfl) ?_
      refine pure_ (i := 1) (N := some 32) #[true, true, false, false, false, false, false, false, false, false, false, false] rfl rfl (any_of HT_.out (by kernel_rfl)) (fun _ _ _ h => h) (Or.inl ⟨by rfl, fun w' => by go_simp; with_reducible rfl⟩) (by simp only [ps_]; rfl) ?_
      refine pure_ (i := 2) (N := some 33) #[true, true, true, false, false, false, false, false, false, false, false, false] rfl rfl (any_of HT_.out (by kernel_rfl)) (fun _ _ _ h => h) (Or.inl ⟨by rfl, fun w' => by go_simp; with_reducible rfl⟩) (by simp only [ps_]; rfl) ?_
      refine pure_ (i := 3) (N := some 34) #[true, true, true, true, false, false, false, false, false, false, false, false] rfl rfl (any_of HT_.out (by kernel_rfl)) (fun _ _ _ h => h) (Or.inl ⟨by rfl, fun w' => by go_simp; with_reducible rfl⟩) (by simp only [ps_]; rfl) ?_
      refine pure_ (i := 5) (N := some 36) #[true, true, true, true, false, true, false, false, false, false, false, false] rfl rfl (any_of HT_.out (by kernel_rfl)) (fun _ _ _ h => h) (Or.inl ⟨by rfl, fun w' => by go_simp; with_reducible rfl⟩) (by simp only [ps_]; rfl) ?_
      refine pure_ (i := 6) (N := some 37) #[true, true, true, true, false, true, true, false, false, false, false, false] rfl rfl (any_of HT_.out (by kernel_rfl)) (fun _ _ _ h => h) (Or.inl ⟨by rfl, fun w' => by go_simp; with_reducible rfl⟩) (by simp only [ps_]; rfl) ?_
      refine pure_ (i := 7) (N := some 38) #[true, true, true, true, false, true, true, true, false, false, false, false] rfl rfl (any_of HT_.out (by kernel_rfl)) (fun _ _ _ h => h) (Or.inl ⟨by rfl, fun w' => by go_simp; with_reducible rfl⟩) (by simp only [ps_]; rfl) ?_
      refine pure_ (i := 8) (N := some 39) #[true, true, true, true, false, true, true, true, true, false, false, false] rfl rfl (any_of HT_.out (by kernel_rfl)) (fun _ _ _ h => h) (Or.inl ⟨by rfl, fun w' => by go_simp; with_reducible rfl⟩) (by simp only [ps_]; rfl) ?_
      refine take_ (i := 4) (N := some 35) (v := ?_) (a' := ?_) #[true, true, true, true, true, true, true, true, true, false, false, false] rfl rfl (take_ofW HT_.out HW_.out (by kernel_rfl)) (fun _ _ _ h => h) (Or.inl ⟨by rfl, ?_⟩) hHeld ?_ ?_
      rotate_left
      ·rintro w' ⟨s0, s1, s2, s3, s4, s5, s6, s7⟩
       go_simp
       with_reducible rfl
      rotate_left
      ·simp only [ps_]
       rfl
      refine take_ (i := 9) (N := some 40) (v := ?_) (a' := ?_) #[true, true, true, true, true, true, true, true, true, true, false, false] rfl rfl (take_ofW HT_.out HW_.out (by kernel_rfl)) (fun _ _ _ h => h) (Or.inl ⟨by rfl, ?_⟩) hHeld ?_ ?_
      rotate_left
      ·rintro w' ⟨s0, s1, s2, s3, s4, s5, s6, s7⟩
       go_simp
       with_reducible rfl
      rotate_left
      ·simp only [ps_]
       rfl
      refine pure_ (i := 10) (N := some 41) #[true, true, true, true, true, true, true, true, true, true, true, false] rfl rfl (any_of HT_.out (by kernel_rfl)) (fun _ _ _ h => h) (Or.inl ⟨by rfl, fun w' => by go_simp; with_reducible rfl⟩) (by simp only [ps_]; rfl) ?_
      refine one_ (i := 11) (N := none) #[true, true, true, true, true, true, true, true, true, true, true, true] rfl rfl (one_of HT_.out (by kernel_rfl)) (by decide) (fun K hK => ?_)
      have hs8 : w7.cell? ⟨gb189, 0, none⟩ = some (.int .i64 x190000_1) := (blk_cell BK189.out 0).trans rfl
      have hfs8 := kF_ BK189.out 0
      have hs9 : w7.cell? ⟨gb189, 1, none⟩ = some (.int .i64 x190001_1) := (blk_cell BK189.out 1).trans rfl
      have hfs9 := kF_ BK189.out 1
      have hs10 : w7.cell? ⟨gb189, 2, none⟩ = some (.int .i64 x190002_1) := (blk_cell BK189.out 2).trans rfl
      have hfs10 := kF_ BK189.out 2
      refine skip_ (w1 := ?_) (by rfl) rfl ?_ ?_
      rotate_left
      ·go_simp
       rfl
      refine hK.out _ _ ⟨((cell_far (p := ⟨gb189, _, none⟩) (bn_ hw191_0 GW189) _).trans (((cell_far (p := ⟨gb189, _, none⟩) (bn_ hw191_0 GW189) _).trans (((cell_far (p := ⟨gb189, _, none⟩) (bn_ hw191_0 GW189) _).trans (hHeld.1)))))), ((cell_far (p := ⟨gb189, _, none⟩) (bn_ hw191_1 GW189) _).trans (((cell_far (p := ⟨gb189, _, none⟩) (bn_ hw191_1 GW189) _).trans (((cell_far (p := ⟨gb189, _, none⟩) (bn_ hw191_1 GW189) _).trans (hHeld.2.1)))))), ((cell_far (p := ⟨gb189, _, none⟩) (bn_ hw191_2 GW189) _).trans (((cell_far (p := ⟨gb189, _, none⟩) (bn_ hw191_2 GW189) _).trans (((cell_far (p := ⟨gb189, _, none⟩) (bn_ hw191_2 GW189) _).trans (hHeld.2.2.1)))))), ((cell_far (p := ⟨gb189, _, none⟩) (bn_ hw191_3 GW189) _).trans (((cell_far (p := ⟨gb189, _, none⟩) (bn_ hw191_3 GW189) _).trans (((cell_far (p := ⟨gb189, _, none⟩) (bn_ hw191_3 GW189) _).trans (hHeld.2.2.2.1)))))), ((cell_far (p := ⟨gb189, _, none⟩) (bn_ hw192_0 GW189) _).trans (((cell_far (p := ⟨gb189, _, none⟩) (bn_ hw192_0 GW189) _).trans (((cell_far (p := ⟨gb189, _, none⟩) (bn_ hw192_0 GW189) _).trans (hHeld.2.2.2.2.1)))))), ((cell_far (p := ⟨gb189, _, none⟩) (bn_ hw192_1 GW189) _).trans (((cell_far (p := ⟨gb189, _, none⟩) (bn_ hw192_1 GW189) _).trans (((cell_far (p := ⟨gb189, _, none⟩) (bn_ hw192_1 GW189) _).trans (hHeld.2.2.2.2.2.1)))))), ((cell_far (p := ⟨gb189, _, none⟩) (bn_ hw192_2 GW189) _).trans (((cell_far (p := ⟨gb189, _, none⟩) (bn_ hw192_2 GW189) _).trans (((cell_far (p := ⟨gb189, _, none⟩) (bn_ hw192_2 GW189) _).trans (hHeld.2.2.2.2.2.2.1)))))), ((cell_far (p := ⟨gb189, _, none⟩) (bn_ hw192_3 GW189) _).trans (((cell_far (p := ⟨gb189, _, none⟩) (bn_ hw192_3 GW189) _).trans (((cell_far (p := ⟨gb189, _, none⟩) (bn_ hw192_3 GW189) _).trans (hHeld.2.2.2.2.2.2.2))))))⟩ (fun hHeld => ?_)
      clear hK K
      refine done_ (done_of HT_.out (by kernel_rfl)) ?_
      try go_wp2
      refine bodyPost_ret (results_cell_row rfl _ _ gb189 30 #[.int .i64 2, .int .i64 ((rd_T34 l1 x5_1).f0), .int .i64 ((rd_T34 l1 x5_1).f1)] (0, 0) _ rfl (by (with_reducible repeat (first | refine kN_ ?_ _ | refine kD_ ?_ | refine kA_ ?_ _)); refine blk_put (cs := #[.int .i64 2, .int .i64 ((rd_T34 l1 x5_1).f0), .int .i64 x190002_1]) ?_ 2 _ rfl; (with_reducible repeat (first | refine kN_ ?_ _ | refine kD_ ?_ | refine kA_ ?_ _)); refine blk_put (cs := #[.int .i64 2, .int .i64 x190001_1, .int .i64 x190002_1]) ?_ 1 _ rfl; (with_reducible repeat (first | refine kN_ ?_ _ | refine kD_ ?_ | refine kA_ ?_ _)); refine blk_put (cs := #[.int .i64 x190000_1, .int .i64 x190001_1, .int .i64 x190002_1]) ?_ 0 _ rfl; (with_reducible repeat (first | refine kN_ ?_ _ | refine kD_ ?_ | refine kA_ ?_ _)); exact BK189.out) Try.underlying30 rfl (by kernel_rfl)) rfl ?_
      exact ⟨by first | rfl | (simp [errW_none, errW_some] <;> rfl) | (simp [*, errW_none, errW_some] <;> rfl), by repeat (first | (with_reducible first | exact HB.out | apply bA_ | apply bN_ | apply bD_ | refine bS_ ?_ GE189.out) | exact HB.out)⟩
     ·rw [if_neg c6] at H
      have c6b0 := decide_eq_false c6
      clear c6
      by_cases c11 : ((rd_T34 l1 x5_1).f0) ≥ (l0.length : Int)
      ·rw [if_pos c11] at H
       have c11b0 := decide_eq_true c11
       clear c11
       simp only [Option.some.injEq, Prod.mk.injEq] at H
       obtain ⟨rfl, rfl, rfl⟩ := H
       have p190 : 0 ≤ (x5_1 : Int) := od_ (by assumption)
       have q190 : x5_1 < (l1.length : Int) := od_ (by assumption)
       obtain ⟨ad190, e190, hx190_0, hx190_1, hx190_2, hx190_3⟩ := at_T34 HR1.out x5_1 p190 q190
       cases e190
       replace hx190_0 := (HB.out.cell (bl_ w _ hx190_0)).trans hx190_0
       replace hx190_1 := (HB.out.cell (bl_ w _ hx190_1)).trans hx190_1
       replace hx190_2 := (HB.out.cell (bl_ w _ hx190_2)).trans hx190_2
       replace hx190_3 := (HB.out.cell (bl_ w _ hx190_3)).trans hx190_3
       replace p190 := eq_true p190
       replace q190 := eq_true q190
       have p193 : 0 ≤ (x5_1 : Int) := od_ (by assumption)
       have q193 : x5_1 < (l1.length : Int) := od_ (by assumption)
       obtain ⟨ad193, e193, hx193_0, hx193_1, hx193_2, hx193_3⟩ := at_T34 HR1.out x5_1 p193 q193
       obtain rfl : ad190 = ad193 := (by injection e193)
       replace hx193_0 := (HB.out.cell (bl_ w _ hx193_0)).trans hx193_0
       replace hx193_1 := (HB.out.cell (bl_ w _ hx193_1)).trans hx193_1
       replace hx193_2 := (HB.out.cell (bl_ w _ hx193_2)).trans hx193_2
       replace hx193_3 := (HB.out.cell (bl_ w _ hx193_3)).trans hx193_3
       replace p193 := eq_true p193
       replace q193 := eq_true q193
       try go_wp2
       replace BK189 := a0_ (kD_ BK189.out)
       replace HB := a0_ (bD_ HB.out)
       have p194 : 0 ≤ (x5_1 : Int) := od_ (by assumption)
       have q194 : x5_1 < (l1.length : Int) := od_ (by assumption)
       obtain ⟨ad194, e194, hx194_0, hx194_1, hx194_2, hx194_3⟩ := at_T34 HR1.out x5_1 p194 q194
       have hw194_3 := hx194_3
       have hw194_2 := hx194_2
       have hw194_1 := hx194_1
       have hw194_0 := hx194_0
       obtain rfl : ad190 = ad194 := (by injection e194)
       replace hx194_0 := (HB.out.cell (bl_ w _ hx194_0)).trans hx194_0
       replace hx194_1 := (HB.out.cell (bl_ w _ hx194_1)).trans hx194_1
       replace hx194_2 := (HB.out.cell (bl_ w _ hx194_2)).trans hx194_2
       replace hx194_3 := (HB.out.cell (bl_ w _ hx194_3)).trans hx194_3
       replace p194 := eq_true p194
       replace q194 := eq_true q194
       have p195 : 0 ≤ (x5_1 : Int) := od_ (by assumption)
       have q195 : x5_1 < (l1.length : Int) := od_ (by assumption)
       obtain ⟨ad195, e195, hx195_0, hx195_1, hx195_2, hx195_3⟩ := at_T34 HR1.out x5_1 p195 q195
       have hw195_3 := hx195_3
       have hw195_2 := hx195_2
       have hw195_1 := hx195_1
       have hw195_0 := hx195_0
       obtain rfl : ad190 = ad195 := (by injection e195)
       replace hx195_0 := (HB.out.cell (bl_ w _ hx195_0)).trans hx195_0
       replace hx195_1 := (HB.out.cell (bl_ w _ hx195_1)).trans hx195_1
       replace hx195_2 := (HB.out.cell (bl_ w _ hx195_2)).trans hx195_2
       replace hx195_3 := (HB.out.cell (bl_ w _ hx195_3)).trans hx195_3
       replace p195 := eq_true p195
       replace q195 := eq_true q195
       refine start_ (n := 12) (S := fun w' => w'.cell? (ad190.add ((x5_1).toNat * 4)) = some (.int .i64 ((rd_T34 l1 x5_1).f0)) ∧ w'.cell? ⟨(ad190.add ((x5_1).toNat * 4)).block, (ad190.add ((x5_1).toNat * 4)).off + 1, none⟩ = some (.int .i64 ((rd_T34 l1 x5_1).f1)) ∧ w'.cell? ⟨(ad190.add ((x5_1).toNat * 4)).block, (ad190.add ((x5_1).toNat * 4)).off + 2, none⟩ = some (.int .i64 ((rd_T34 l1 x5_1).f2)) ∧ w'.cell? ⟨(ad190.add ((x5_1).toNat * 4)).block, (ad190.add ((x5_1).toNat * 4)).off + 3, none⟩ = some (.string ((rd_T34 l1 x5_1).f3)) ∧ w'.cell? (ad190.add ((x5_1).toNat * 4)) = some (.int .i64 ((rd_T34 l1 x5_1).f0)) ∧ w'.cell? ⟨(ad190.add ((x5_1).toNat * 4)).block, (ad190.add ((x5_1).toNat * 4)).off + 1, none⟩ = some (.int .i64 ((rd_T34 l1 x5_1).f1)) ∧ w'.cell? ⟨(ad190.add ((x5_1).toNat * 4)).block, (ad190.add ((x5_1).toNat * 4)).off + 2, none⟩ = some (.int .i64 ((rd_T34 l1 x5_1).f2)) ∧ w'.cell? ⟨(ad190.add ((x5_1).toNat * 4)).block, (ad190.add ((x5_1).toNat * 4)).off + 3, none⟩ = some (.string ((rd_T34 l1 x5_1).f3))) (ds := []) #[false, false, false, false, false, false, false, false, false, false, false, false] (by kernel_rfl) rfl rfl ⟨((HB.out.cell (bl_ w _ hw194_0)).trans hw194_0), ((HB.out.cell (bl_ w _ hw194_1)).trans hw194_1), ((HB.out.cell (bl_ w _ hw194_2)).trans hw194_2), ((HB.out.cell (bl_ w _ hw194_3)).trans hw194_3), ((HB.out.cell (bl_ w _ hw195_0)).trans hw195_0), ((HB.out.cell (bl_ w _ hw195_1)).trans hw195_1), ((HB.out.cell (bl_ w _ hw195_2)).trans hw195_2), ((HB.out.cell (bl_ w _ hw195_3)).trans hw195_3)⟩ (fun hHeld => ?_); refine with_tabW orielref17_Check.tab5 orielref17_Check.bits5 (fun HT_ HW_ => ?_)
       generalize wr.drew = w12 at BK189 HB hx194_0 hx194_1 hx194_2 hx194_3 hx195_0 hx195_1 hx195_2 hx195_3 hHeld ⊢
       refine pure_ (i := 0) (N := some 31) #[true, false, false, false, false, false, false, false, false, false, false, false] rfl rfl (any_of HT_.out (by kernel_rfl)) (fun _ _ _ h => h) (Or.inl ⟨by rfl, fun w' => by go_simp; with_reducible rfl⟩) (by simp only [ps_]; rfl) ?_
       refine pure_ (i := 1) (N := some 32) #[true, true, false, false, false, false, false, false, false, false, false, false] rfl rfl (any_of HT_.out (by kernel_rfl)) (fun _ _ _ h => h) (Or.inl ⟨by rfl, fun w' => by go_simp; with_reducible rfl⟩) (by simp only [ps_]; rfl) ?_
       refine pure_ (i := 2) (N := some 33) #[true, true, true, false, false, false, false, false, false, false, false, false] rfl rfl (any_of HT_.out (by kernel_rfl)) (fun _ _ _ h => h) (Or.inl ⟨by rfl, fun w' => by go_simp; with_reducible rfl⟩) (by simp only [ps_]; rfl) ?_
       refine pure_ (i := 3) (N := some 34) #[true, true, true, true, false, false, false, false, false, false, false, false] rfl rfl (any_of HT_.out (by kernel_rfl)) (fun _ _ _ h => h) (Or.inl ⟨by rfl, fun w' => by go_simp; with_reducible rfl⟩) (by simp only [ps_]; rfl) ?_
       refine pure_ (i := 5) (N := some 36) #[true, true, true, true, false, true, false, false, false, false, false, false] rfl rfl (any_of HT_.out (by kernel_rfl)) (fun _ _ _ h => h) (Or.inl ⟨by rfl, fun w' => by go_simp; with_reducible rfl⟩) (by simp only [ps_]; rfl) ?_
       refine pure_ (i := 6) (N := some 37) #[true, true, true, true, false, true, true, false, false, false, false, false] rfl rfl (any_of HT_.out (by kernel_rfl)) (fun _ _ _ h => h) (Or.inl ⟨by rfl, fun w' => by go_simp; with_reducible rfl⟩) (by simp only [ps_]; rfl) ?_
       refine pure_ (i := 7) (N := some 38) #[true, true, true, true, false, true, true, true, false, false, false, false] rfl rfl (any_of HT_.out (by kernel_rfl)) (fun _ _ _ h => h) (Or.inl ⟨by rfl, fun w' => by go_simp; with_reducible rfl⟩) (by simp only [ps_]; rfl) ?_
       refine pure_ (i := 8) (N := some 39) #[true, true, true, true, false, true, true, true, true, false, false, false] rfl rfl (any_of HT_.out (by kernel_rfl)) (fun _ _ _ h => h) (Or.inl ⟨by rfl, fun w' => by go_simp; with_reducible rfl⟩) (by simp only [ps_]; rfl) ?_
       refine take_ (i := 4) (N := some 35) (v := ?_) (a' := ?_) #[true, true, true, true, true, true, true, true, true, false, false, false] rfl rfl (take_ofW HT_.out HW_.out (by kernel_rfl)) (fun _ _ _ h => h) (Or.inl ⟨by rfl, ?_⟩) hHeld ?_ ?_
       rotate_left
       ·rintro w' ⟨s0, s1, s2, s3, s4, s5, s6, s7⟩
        go_simp
        with_reducible rfl
       rotate_left
       ·simp only [ps_]
        rfl
       refine take_ (i := 9) (N := some 40) (v := ?_) (a' := ?_) #[true, true, true, true, true, true, true, true, true, true, false, false] rfl rfl (take_ofW HT_.out HW_.out (by kernel_rfl)) (fun _ _ _ h => h) (Or.inl ⟨by rfl, ?_⟩) hHeld ?_ ?_
       rotate_left
       ·rintro w' ⟨s0, s1, s2, s3, s4, s5, s6, s7⟩
        go_simp
        with_reducible rfl
       rotate_left
       ·simp only [ps_]
        rfl
       refine pure_ (i := 10) (N := some 41) #[true, true, true, true, true, true, true, true, true, true, true, false] rfl rfl (any_of HT_.out (by kernel_rfl)) (fun _ _ _ h => h) (Or.inl ⟨by rfl, fun w' => by go_simp; with_reducible rfl⟩) (by simp only [ps_]; rfl) ?_
       refine one_ (i := 11) (N := none) #[true, true, true, true, true, true, true, true, true, true, true, true] rfl rfl (one_of HT_.out (by kernel_rfl)) (by decide) (fun K hK => ?_)
       have hs13 : w12.cell? ⟨gb189, 0, none⟩ = some (.int .i64 x190000_1) := (blk_cell BK189.out 0).trans rfl
       have hfs13 := kF_ BK189.out 0
       have hs14 : w12.cell? ⟨gb189, 1, none⟩ = some (.int .i64 x190001_1) := (blk_cell BK189.out 1).trans rfl
       have hfs14 := kF_ BK189.out 1
       have hs15 : w12.cell? ⟨gb189, 2, none⟩ = some (.int .i64 x190002_1) := (blk_cell BK189.out 2).trans rfl
       have hfs15 := kF_ BK189.out 2
       refine skip_ (w1 := ?_) (by rfl) rfl ?_ ?_
       rotate_left
       ·go_simp
        rfl
       refine hK.out _ _ ⟨((cell_far (p := ⟨gb189, _, none⟩) (bn_ hw194_0 GW189) _).trans (((cell_far (p := ⟨gb189, _, none⟩) (bn_ hw194_0 GW189) _).trans (((cell_far (p := ⟨gb189, _, none⟩) (bn_ hw194_0 GW189) _).trans (hHeld.1)))))), ((cell_far (p := ⟨gb189, _, none⟩) (bn_ hw194_1 GW189) _).trans (((cell_far (p := ⟨gb189, _, none⟩) (bn_ hw194_1 GW189) _).trans (((cell_far (p := ⟨gb189, _, none⟩) (bn_ hw194_1 GW189) _).trans (hHeld.2.1)))))), ((cell_far (p := ⟨gb189, _, none⟩) (bn_ hw194_2 GW189) _).trans (((cell_far (p := ⟨gb189, _, none⟩) (bn_ hw194_2 GW189) _).trans (((cell_far (p := ⟨gb189, _, none⟩) (bn_ hw194_2 GW189) _).trans (hHeld.2.2.1)))))), ((cell_far (p := ⟨gb189, _, none⟩) (bn_ hw194_3 GW189) _).trans (((cell_far (p := ⟨gb189, _, none⟩) (bn_ hw194_3 GW189) _).trans (((cell_far (p := ⟨gb189, _, none⟩) (bn_ hw194_3 GW189) _).trans (hHeld.2.2.2.1)))))), ((cell_far (p := ⟨gb189, _, none⟩) (bn_ hw195_0 GW189) _).trans (((cell_far (p := ⟨gb189, _, none⟩) (bn_ hw195_0 GW189) _).trans (((cell_far (p := ⟨gb189, _, none⟩) (bn_ hw195_0 GW189) _).trans (hHeld.2.2.2.2.1)))))), ((cell_far (p := ⟨gb189, _, none⟩) (bn_ hw195_1 GW189) _).trans (((cell_far (p := ⟨gb189, _, none⟩) (bn_ hw195_1 GW189) _).trans (((cell_far (p := ⟨gb189, _, none⟩) (bn_ hw195_1 GW189) _).trans (hHeld.2.2.2.2.2.1)))))), ((cell_far (p := ⟨gb189, _, none⟩) (bn_ hw195_2 GW189) _).trans (((cell_far (p := ⟨gb189, _, none⟩) (bn_ hw195_2 GW189) _).trans (((cell_far (p := ⟨gb189, _, none⟩) (bn_ hw195_2 GW189) _).trans (hHeld.2.2.2.2.2.2.1)))))), ((cell_far (p := ⟨gb189, _, none⟩) (bn_ hw195_3 GW189) _).trans (((cell_far (p := ⟨gb189, _, none⟩) (bn_ hw195_3 GW189) _).trans (((cell_far (p := ⟨gb189, _, none⟩) (bn_ hw195_3 GW189) _).trans (hHeld.2.2.2.2.2.2.2))))))⟩ (fun hHeld => ?_)
       clear hK K
       refine done_ (done_of HT_.out (by kernel_rfl)) ?_
       try go_wp2
       refine bodyPost_ret (results_cell_row rfl _ _ gb189 30 #[.int .i64 2, .int .i64 ((rd_T34 l1 x5_1).f0), .int .i64 ((rd_T34 l1 x5_1).f1)] (0, 0) _ rfl (by (with_reducible repeat (first | refine kN_ ?_ _ | refine kD_ ?_ | refine kA_ ?_ _)); refine blk_put (cs := #[.int .i64 2, .int .i64 ((rd_T34 l1 x5_1).f0), .int .i64 x190002_1]) ?_ 2 _ rfl; (with_reducible repeat (first | refine kN_ ?_ _ | refine kD_ ?_ | refine kA_ ?_ _)); refine blk_put (cs := #[.int .i64 2, .int .i64 x190001_1, .int .i64 x190002_1]) ?_ 1 _ rfl; (with_reducible repeat (first | refine kN_ ?_ _ | refine kD_ ?_ | refine kA_ ?_ _)); refine blk_put (cs := #[.int .i64 x190000_1, .int .i64 x190001_1, .int .i64 x190002_1]) ?_ 0 _ rfl; (with_reducible repeat (first | refine kN_ ?_ _ | refine kD_ ?_ | refine kA_ ?_ _)); exact BK189.out) Try.underlying30 rfl (by kernel_rfl)) rfl ?_
       exact ⟨by first | rfl | (simp [errW_none, errW_some] <;> rfl) | (simp [*, errW_none, errW_some] <;> rfl), by repeat (first | (with_reducible first | exact HB.out | apply bA_ | apply bN_ | apply bD_ | refine bS_ ?_ GE189.out) | exact HB.out)⟩
      ·rw [if_neg c11] at H
       have c11b0 := decide_eq_false c11
       clear c11
       have H' := a0_ H
       clear H
       have p190 : 0 ≤ (x5_1 : Int) := od_ (by assumption)
       have q190 : x5_1 < (l1.length : Int) := od_ (by assumption)
       obtain ⟨ad190, e190, hx190_0, hx190_1, hx190_2, hx190_3⟩ := at_T34 HR1.out x5_1 p190 q190
       cases e190
       replace hx190_0 := (HB.out.cell (bl_ w _ hx190_0)).trans hx190_0
       replace hx190_1 := (HB.out.cell (bl_ w _ hx190_1)).trans hx190_1
       replace hx190_2 := (HB.out.cell (bl_ w _ hx190_2)).trans hx190_2
       replace hx190_3 := (HB.out.cell (bl_ w _ hx190_3)).trans hx190_3
       replace p190 := eq_true p190
       replace q190 := eq_true q190
       have p193 : 0 ≤ (x5_1 : Int) := od_ (by assumption)
       have q193 : x5_1 < (l1.length : Int) := od_ (by assumption)
       obtain ⟨ad193, e193, hx193_0, hx193_1, hx193_2, hx193_3⟩ := at_T34 HR1.out x5_1 p193 q193
       obtain rfl : ad190 = ad193 := (by injection e193)
       replace hx193_0 := (HB.out.cell (bl_ w _ hx193_0)).trans hx193_0
       replace hx193_1 := (HB.out.cell (bl_ w _ hx193_1)).trans hx193_1
       replace hx193_2 := (HB.out.cell (bl_ w _ hx193_2)).trans hx193_2
       replace hx193_3 := (HB.out.cell (bl_ w _ hx193_3)).trans hx193_3
       replace p193 := eq_true p193
       replace q193 := eq_true q193
       go_wp2
       go_roundg k1
       case measure => have := HK1.out; omega
       case rel => exact ⟨(wrap64 (x5_1 + 1)), (x190000_1), (x190001_1), (x190002_1), (by first | rfl | (simp; done) | (simp [*]; done)), H', ⟨by have := HK1.out; omega⟩, ⟨by exact BK189.out⟩, ⟨by exact HB.out⟩⟩
    ·rw [if_neg c5] at H
     exact absurd H (by simp)
   ·rw [if_neg c4] at H
    have c4b0 := decide_eq_false c4
    clear c4
    have H' := a0_ H
    clear H
    go_wp2
    go_loopg [6] k1 (fun kq v6 w' => ∃ (x6_2 : Int) (x190000_2 : Int) (x190001_2 : Int) (x190002_2 : Int), v6 = .int .i64 x6_2 ∧ Aside0 (orielref17_Check.l1 kq l0 l1 x6_2 = some (r1, r2, r3)) ∧ Aside0 (kq ≤ k1) ∧ Aside0 (w'.heap[gb189]? = some (.cells #[.int .i64 x190000_2, .int .i64 x190001_2, .int .i64 x190002_2] 30 (0, 0))) ∧ Aside0 (Below w.heap.size w w'))
    case atStart => exact ⟨(1), (x190000_1), (x190001_1), (x190002_1), (by first | rfl | (simp; done) | (simp [*]; done)), H', ⟨Nat.le_refl _⟩, ⟨by exact BK189.out⟩, ⟨by exact HB.out⟩⟩
    case round =>
     clear H'
     obtain ⟨x6_2, x190000_2, x190001_2, x190002_2, rfl, HA, HK2, BK189, HB⟩ := hrel
     cases gk with
     | zero => exact absurd HA.out (by simp [orielref17_Check.l1])
     | succ k2 =>
      have H := HA.out
      clear HA
      simp only [orielref17_Check.l1] at H
      by_cases c16 : x6_2 < (l1.length : Int)
      ·rw [if_pos c16] at H
       have c16b0 := decide_eq_true c16
       clear c16
       by_cases c17 : 0 ≤ x6_2
       ·rw [if_pos c17] at H
        have c17b0 := decide_eq_true c17
        clear c17
        obtain ⟨ji18, hji18⟩ : ∃ j_ : Int, (wrap64 (x6_2 - 1)) = j_ := ⟨_, rfl⟩
        replace H : (if 0 ≤ (ji18) then (if (ji18) < (l1.length : Int) then (if ((rd_T34 l1 x6_2).f0) < ((rd_T34 l1 (ji18)).f0) then (some (3, (rd_T34 l1 x6_2).f0, (rd_T34 l1 x6_2).f1)) else (orielref17_Check.l1 k2 l0 l1 (wrap64 (x6_2 + 1)))) else (none)) else (none)) = some (r1, r2, r3) := by first | (rw [hji18] at H; exact H) | (simp only [hji18] at H ⊢; exact H)
        have hji18w : (IntKind.i64.wrap (x6_2 - 1)) = ji18 := (i64_w _).trans hji18
        by_cases c19 : 0 ≤ (ji18)
        ·rw [if_pos c19] at H
         have c19b0 := decide_eq_true c19
         clear c19
         by_cases c20 : (ji18) < (l1.length : Int)
         ·rw [if_pos c20] at H
          have c20b0 := decide_eq_true c20
          clear c20
          by_cases c21 : ((rd_T34 l1 x6_2).f0) < ((rd_T34 l1 (ji18)).f0)
          ·rw [if_pos c21] at H
           have c21b0 := decide_eq_true c21
           clear c21
           simp only [Option.some.injEq, Prod.mk.injEq] at H
           obtain ⟨rfl, rfl, rfl⟩ := H
           try go_wp2
           replace BK189 := a0_ (kD_ BK189.out)
           replace HB := a0_ (bD_ HB.out)
           have p196 : 0 ≤ (x6_2 : Int) := od_ (by assumption)
           have q196 : x6_2 < (l1.length : Int) := od_ (by assumption)
           obtain ⟨ad196, e196, hx196_0, hx196_1, hx196_2, hx196_3⟩ := at_T34 HR1.out x6_2 p196 q196
           have hw196_3 := hx196_3
           have hw196_2 := hx196_2
           have hw196_1 := hx196_1
           have hw196_0 := hx196_0
           cases e196
           replace hx196_0 := (HB.out.cell (bl_ w _ hx196_0)).trans hx196_0
           replace hx196_1 := (HB.out.cell (bl_ w _ hx196_1)).trans hx196_1
           replace hx196_2 := (HB.out.cell (bl_ w _ hx196_2)).trans hx196_2
           replace hx196_3 := (HB.out.cell (bl_ w _ hx196_3)).trans hx196_3
           replace p196 := eq_true p196
           replace q196 := eq_true q196
           have p197 : 0 ≤ ((ji18) : Int) := od_ (by assumption)
           have q197 : (ji18) < (l1.length : Int) := od_ (by assumption)
           obtain ⟨ad197, e197, hx197_0, hx197_1, hx197_2, hx197_3⟩ := at_T34 HR1.out (ji18) p197 q197
           have hw197_3 := hx197_3
           have hw197_2 := hx197_2
           have hw197_1 := hx197_1
           have hw197_0 := hx197_0
           obtain rfl : ad196 = ad197 := (by injection e197)
           replace hx197_0 := (HB.out.cell (bl_ w _ hx197_0)).trans hx197_0
           replace hx197_1 := (HB.out.cell (bl_ w _ hx197_1)).trans hx197_1
           replace hx197_2 := (HB.out.cell (bl_ w _ hx197_2)).trans hx197_2
           replace hx197_3 := (HB.out.cell (bl_ w _ hx197_3)).trans hx197_3
           replace p197 := eq_true p197
           replace q197 := eq_true q197
           refine start_ (n := 12) (S := fun w' => w'.cell? (ad196.add ((x6_2).toNat * 4)) = some (.int .i64 ((rd_T34 l1 x6_2).f0)) ∧ w'.cell? ⟨(ad196.add ((x6_2).toNat * 4)).block, (ad196.add ((x6_2).toNat * 4)).off + 1, none⟩ = some (.int .i64 ((rd_T34 l1 x6_2).f1)) ∧ w'.cell? ⟨(ad196.add ((x6_2).toNat * 4)).block, (ad196.add ((x6_2).toNat * 4)).off + 2, none⟩ = some (.int .i64 ((rd_T34 l1 x6_2).f2)) ∧ w'.cell? ⟨(ad196.add ((x6_2).toNat * 4)).block, (ad196.add ((x6_2).toNat * 4)).off + 3, none⟩ = some (.string ((rd_T34 l1 x6_2).f3)) ∧ w'.cell? (ad196.add (((ji18)).toNat * 4)) = some (.int .i64 ((rd_T34 l1 (ji18)).f0)) ∧ w'.cell? ⟨(ad196.add (((ji18)).toNat * 4)).block, (ad196.add (((ji18)).toNat * 4)).off + 1, none⟩ = some (.int .i64 ((rd_T34 l1 (ji18)).f1)) ∧ w'.cell? ⟨(ad196.add (((ji18)).toNat * 4)).block, (ad196.add (((ji18)).toNat * 4)).off + 2, none⟩ = some (.int .i64 ((rd_T34 l1 (ji18)).f2)) ∧ w'.cell? ⟨(ad196.add (((ji18)).toNat * 4)).block, (ad196.add (((ji18)).toNat * 4)).off + 3, none⟩ = some (.string ((rd_T34 l1 (ji18)).f3))) (ds := []) #[false, false, false, false, false, false, false, false, false, false, false, false] (by kernel_rfl) rfl rfl ⟨((HB.out.cell (bl_ w _ hw196_0)).trans hw196_0), ((HB.out.cell (bl_ w _ hw196_1)).trans hw196_1), ((HB.out.cell (bl_ w _ hw196_2)).trans hw196_2), ((HB.out.cell (bl_ w _ hw196_3)).trans hw196_3), ((HB.out.cell (bl_ w _ hw197_0)).trans hw197_0), ((HB.out.cell (bl_ w _ hw197_1)).trans hw197_1), ((HB.out.cell (bl_ w _ hw197_2)).trans hw197_2), ((HB.out.cell (bl_ w _ hw197_3)).trans hw197_3)⟩ (fun hHeld => ?_); refine with_tabW orielref17_Check.tab9 orielref17_Check.bits9 (fun HT_ HW_ => ?_)
           generalize wr.drew = w22 at BK189 HB hx196_0 hx196_1 hx196_2 hx196_3 hx197_0 hx197_1 hx197_2 hx197_3 hHeld ⊢
           refine pure_ (i := 0) (N := some 48) #[true, false, false, false, false, false, false, false, false, false, false, false] rfl rfl (any_of HT_.out (by kernel_rfl)) (fun _ _ _ h => h) (Or.inl ⟨by rfl, fun w' => by go_simp; with_reducible rfl⟩) (by simp only [ps_]; rfl) ?_
           refine pure_ (i := 1) (N := some 49) #[true, true, false, false, false, false, false, false, false, false, false, false] rfl rfl (any_of HT_.out (by kernel_rfl)) (fun _ _ _ h => h) (Or.inl ⟨by rfl, fun w' => by go_simp; with_reducible rfl⟩) (by simp only [ps_]; rfl) ?_
           refine pure_ (i := 2) (N := some 50) #[true, true, true, false, false, false, false, false, false, false, false, false] rfl rfl (any_of HT_.out (by kernel_rfl)) (fun _ _ _ h => h) (Or.inl ⟨by rfl, fun w' => by go_simp; with_reducible rfl⟩) (by simp only [ps_]; rfl) ?_
           refine pure_ (i := 3) (N := some 51) #[true, true, true, true, false, false, false, false, false, false, false, false] rfl rfl (any_of HT_.out (by kernel_rfl)) (fun _ _ _ h => h) (Or.inl ⟨by rfl, fun w' => by go_simp; with_reducible rfl⟩) (by simp only [ps_]; rfl) ?_
           refine pure_ (i := 5) (N := some 53) #[true, true, true, true, false, true, false, false, false, false, false, false] rfl rfl (any_of HT_.out (by kernel_rfl)) (fun _ _ _ h => h) (Or.inl ⟨by rfl, fun w' => by go_simp; with_reducible rfl⟩) (by simp only [ps_]; rfl) ?_
           refine pure_ (i := 6) (N := some 54) #[true, true, true, true, false, true, true, false, false, false, false, false] rfl rfl (any_of HT_.out (by kernel_rfl)) (fun _ _ _ h => h) (Or.inl ⟨by rfl, fun w' => by go_simp; with_reducible rfl⟩) (by simp only [ps_]; rfl) ?_
           refine pure_ (i := 7) (N := some 55) #[true, true, true, true, false, true, true, true, false, false, false, false] rfl rfl (any_of HT_.out (by kernel_rfl)) (fun _ _ _ h => h) (Or.inl ⟨by rfl, fun w' => by go_simp; with_reducible rfl⟩) (by simp only [ps_]; rfl) ?_
           refine pure_ (i := 8) (N := some 56) #[true, true, true, true, false, true, true, true, true, false, false, false] rfl rfl (any_of HT_.out (by kernel_rfl)) (fun _ _ _ h => h) (Or.inl ⟨by rfl, fun w' => by go_simp; with_reducible rfl⟩) (by simp only [ps_]; rfl) ?_
           refine pure_ (i := 9) (N := some 57) #[true, true, true, true, false, true, true, true, true, true, false, false] rfl rfl (any_of HT_.out (by kernel_rfl)) (fun _ _ _ h => h) (Or.inl ⟨by rfl, fun w' => by go_simp; with_reducible rfl⟩) (by simp only [ps_]; rfl) ?_
           refine take_ (i := 4) (N := some 52) (v := ?_) (a' := ?_) #[true, true, true, true, true, true, true, true, true, true, false, false] rfl rfl (take_ofW HT_.out HW_.out (by kernel_rfl)) (fun _ _ _ h => h) (Or.inl ⟨by rfl, ?_⟩) hHeld ?_ ?_
           rotate_left
           ·rintro w' ⟨s0, s1, s2, s3, s4, s5, s6, s7⟩
            go_simp
            with_reducible rfl
           rotate_left
           ·simp only [ps_]
            rfl
           refine take_ (i := 10) (N := some 58) (v := ?_) (a' := ?_) #[true, true, true, true, true, true, true, true, true, true, true, false] rfl rfl (take_ofW HT_.out HW_.out (by kernel_rfl)) (fun _ _ _ h => h) (Or.inl ⟨by rfl, ?_⟩) hHeld ?_ ?_
           rotate_left
           ·rintro w' ⟨s0, s1, s2, s3, s4, s5, s6, s7⟩
            go_simp
            with_reducible rfl
           rotate_left
           ·simp only [ps_]
            rfl
           refine pure_ (i := 11) (N := some 59) #[true, true, true, true, true, true, true, true, true, true, true, true] rfl rfl (any_of HT_.out (by kernel_rfl)) (fun _ _ _ h => h) (Or.inl ⟨by rfl, fun w' => by go_simp; with_reducible rfl⟩) (by simp only [ps_]; rfl) ?_
           refine done_ (done_of HT_.out (by kernel_rfl)) ?_
           try go_wp2
           replace BK189 := a0_ (kD_ BK189.out)
           replace HB := a0_ (bD_ HB.out)
           have p198 : 0 ≤ (x6_2 : Int) := od_ (by assumption)
           have q198 : x6_2 < (l1.length : Int) := od_ (by assumption)
           obtain ⟨ad198, e198, hx198_0, hx198_1, hx198_2, hx198_3⟩ := at_T34 HR1.out x6_2 p198 q198
           have hw198_3 := hx198_3
           have hw198_2 := hx198_2
           have hw198_1 := hx198_1
           have hw198_0 := hx198_0
           obtain rfl : ad196 = ad198 := (by injection e198)
           replace hx198_0 := (HB.out.cell (bl_ w _ hx198_0)).trans hx198_0
           replace hx198_1 := (HB.out.cell (bl_ w _ hx198_1)).trans hx198_1
           replace hx198_2 := (HB.out.cell (bl_ w _ hx198_2)).trans hx198_2
           replace hx198_3 := (HB.out.cell (bl_ w _ hx198_3)).trans hx198_3
           replace p198 := eq_true p198
           replace q198 := eq_true q198
           have p199 : 0 ≤ (x6_2 : Int) := od_ (by assumption)
           have q199 : x6_2 < (l1.length : Int) := od_ (by assumption)
           obtain ⟨ad199, e199, hx199_0, hx199_1, hx199_2, hx199_3⟩ := at_T34 HR1.out x6_2 p199 q199
           have hw199_3 := hx199_3
           have hw199_2 := hx199_2
           have hw199_1 := hx199_1
           have hw199_0 := hx199_0
           obtain rfl : ad196 = ad199 := (by injection e199)
           replace hx199_0 := (HB.out.cell (bl_ w _ hx199_0)).trans hx199_0
           replace hx199_1 := (HB.out.cell (bl_ w _ hx199_1)).trans hx199_1
           replace hx199_2 := (HB.out.cell (bl_ w _ hx199_2)).trans hx199_2
           replace hx199_3 := (HB.out.cell (bl_ w _ hx199_3)).trans hx199_3
           replace p199 := eq_true p199
           replace q199 := eq_true q199
           refine start_ (n := 12) (S := fun w' => w'.cell? (ad196.add ((x6_2).toNat * 4)) = some (.int .i64 ((rd_T34 l1 x6_2).f0)) ∧ w'.cell? ⟨(ad196.add ((x6_2).toNat * 4)).block, (ad196.add ((x6_2).toNat * 4)).off + 1, none⟩ = some (.int .i64 ((rd_T34 l1 x6_2).f1)) ∧ w'.cell? ⟨(ad196.add ((x6_2).toNat * 4)).block, (ad196.add ((x6_2).toNat * 4)).off + 2, none⟩ = some (.int .i64 ((rd_T34 l1 x6_2).f2)) ∧ w'.cell? ⟨(ad196.add ((x6_2).toNat * 4)).block, (ad196.add ((x6_2).toNat * 4)).off + 3, none⟩ = some (.string ((rd_T34 l1 x6_2).f3)) ∧ w'.cell? (ad196.add ((x6_2).toNat * 4)) = some (.int .i64 ((rd_T34 l1 x6_2).f0)) ∧ w'.cell? ⟨(ad196.add ((x6_2).toNat * 4)).block, (ad196.add ((x6_2).toNat * 4)).off + 1, none⟩ = some (.int .i64 ((rd_T34 l1 x6_2).f1)) ∧ w'.cell? ⟨(ad196.add ((x6_2).toNat * 4)).block, (ad196.add ((x6_2).toNat * 4)).off + 2, none⟩ = some (.int .i64 ((rd_T34 l1 x6_2).f2)) ∧ w'.cell? ⟨(ad196.add ((x6_2).toNat * 4)).block, (ad196.add ((x6_2).toNat * 4)).off + 3, none⟩ = some (.string ((rd_T34 l1 x6_2).f3))) (ds := []) #[false, false, false, false, false, false, false, false, false, false, false, false] (by kernel_rfl) rfl rfl ⟨((HB.out.cell (bl_ w _ hw198_0)).trans hw198_0), ((HB.out.cell (bl_ w _ hw198_1)).trans hw198_1), ((HB.out.cell (bl_ w _ hw198_2)).trans hw198_2), ((HB.out.cell (bl_ w _ hw198_3)).trans hw198_3), ((HB.out.cell (bl_ w _ hw199_0)).trans hw199_0), ((HB.out.cell (bl_ w _ hw199_1)).trans hw199_1), ((HB.out.cell (bl_ w _ hw199_2)).trans hw199_2), ((HB.out.cell (bl_ w _ hw199_3)).trans hw199_3)⟩ (fun hHeld => ?_); refine with_tabW orielref17_Check.tab10 orielref17_Check.bits10 (fun HT_ HW_ => ?_)
           generalize w22.drew = w23 at BK189 HB hx198_0 hx198_1 hx198_2 hx198_3 hx199_0 hx199_1 hx199_2 hx199_3 hHeld ⊢
           refine pure_ (i := 0) (N := some 60) #[true, false, false, false, false, false, false, false, false, false, false, false] rfl rfl (any_of HT_.out (by kernel_rfl)) (fun _ _ _ h => h) (Or.inl ⟨by rfl, fun w' => by go_simp; with_reducible rfl⟩) (by simp only [ps_]; rfl) ?_
           refine pure_ (i := 1) (N := some 61) #[true, true, false, false, false, false, false, false, false, false, false, false] rfl rfl (any_of HT_.out (by kernel_rfl)) (fun _ _ _ h => h) (Or.inl ⟨by rfl, fun w' => by go_simp; with_reducible rfl⟩) (by simp only [ps_]; rfl) ?_
           refine pure_ (i := 2) (N := some 62) #[true, true, true, false, false, false, false, false, false, false, false, false] rfl rfl (any_of HT_.out (by kernel_rfl)) (fun _ _ _ h => h) (Or.inl ⟨by rfl, fun w' => by go_simp; with_reducible rfl⟩) (by simp only [ps_]; rfl) ?_
           refine pure_ (i := 3) (N := some 63) #[true, true, true, true, false, false, false, false, false, false, false, false] rfl rfl (any_of HT_.out (by kernel_rfl)) (fun _ _ _ h => h) (Or.inl ⟨by rfl, fun w' => by go_simp; with_reducible rfl⟩) (by simp only [ps_]; rfl) ?_
           refine pure_ (i := 5) (N := some 65) #[true, true, true, true, false, true, false, false, false, false, false, false] rfl rfl (any_of HT_.out (by kernel_rfl)) (fun _ _ _ h => h) (Or.inl ⟨by rfl, fun w' => by go_simp; with_reducible rfl⟩) (by simp only [ps_]; rfl) ?_
           refine pure_ (i := 6) (N := some 66) #[true, true, true, true, false, true, true, false, false, false, false, false] rfl rfl (any_of HT_.out (by kernel_rfl)) (fun _ _ _ h => h) (Or.inl ⟨by rfl, fun w' => by go_simp; with_reducible rfl⟩) (by simp only [ps_]; rfl) ?_
           refine pure_ (i := 7) (N := some 67) #[true, true, true, true, false, true, true, true, false, false, false, false] rfl rfl (any_of HT_.out (by kernel_rfl)) (fun _ _ _ h => h) (Or.inl ⟨by rfl, fun w' => by go_simp; with_reducible rfl⟩) (by simp only [ps_]; rfl) ?_
           refine pure_ (i := 8) (N := some 68) #[true, true, true, true, false, true, true, true, true, false, false, false] rfl rfl (any_of HT_.out (by kernel_rfl)) (fun _ _ _ h => h) (Or.inl ⟨by rfl, fun w' => by go_simp; with_reducible rfl⟩) (by simp only [ps_]; rfl) ?_
           refine take_ (i := 4) (N := some 64) (v := ?_) (a' := ?_) #[true, true, true, true, true, true, true, true, true, false, false, false] rfl rfl (take_ofW HT_.out HW_.out (by kernel_rfl)) (fun _ _ _ h => h) (Or.inl ⟨by rfl, ?_⟩) hHeld ?_ ?_
           rotate_left
           ·rintro w' ⟨s0, s1, s2, s3, s4, s5, s6, s7⟩
            go_simp
            with_reducible rfl
           rotate_left
           ·simp only [ps_]
            rfl
           refine take_ (i := 9) (N := some 69) (v := ?_) (a' := ?_) #[true, true, true, true, true, true, true, true, true, true, false, false] rfl rfl (take_ofW HT_.out HW_.out (by kernel_rfl)) (fun _ _ _ h => h) (Or.inl ⟨by rfl, ?_⟩) hHeld ?_ ?_
           rotate_left
           ·rintro w' ⟨s0, s1, s2, s3, s4, s5, s6, s7⟩
            go_simp
            with_reducible rfl
           rotate_left
           ·simp only [ps_]
            rfl
           refine pure_ (i := 10) (N := some 70) #[true, true, true, true, true, true, true, true, true, true, true, false] rfl rfl (any_of HT_.out (by kernel_rfl)) (fun _ _ _ h => h) (Or.inl ⟨by rfl, fun w' => by go_simp; with_reducible rfl⟩) (by simp only [ps_]; rfl) ?_
           refine one_ (i := 11) (N := none) #[true, true, true, true, true, true, true, true, true, true, true, true] rfl rfl (one_of HT_.out (by kernel_rfl)) (by decide) (fun K hK => ?_)
           have hs24 : w23.cell? ⟨gb189, 0, none⟩ = some (.int .i64 x190000_2) := (blk_cell BK189.out 0).trans rfl
           have hfs24 := kF_ BK189.out 0
           have hs25 : w23.cell? ⟨gb189, 1, none⟩ = some (.int .i64 x190001_2) := (blk_cell BK189.out 1).trans rfl
           have hfs25 := kF_ BK189.out 1
           have hs26 : w23.cell? ⟨gb189, 2, none⟩ = some (.int .i64 x190002_2) := (blk_cell BK189.out 2).trans rfl
           have hfs26 := kF_ BK189.out 2
           refine skip_ (w1 := ?_) (by rfl) rfl ?_ ?_
           rotate_left
           ·go_simp
            rfl
           refine hK.out _ _ ⟨((cell_far (p := ⟨gb189, _, none⟩) (bn_ hw198_0 GW189) _).trans (((cell_far (p := ⟨gb189, _, none⟩) (bn_ hw198_0 GW189) _).trans (((cell_far (p := ⟨gb189, _, none⟩) (bn_ hw198_0 GW189) _).trans (hHeld.1)))))), ((cell_far (p := ⟨gb189, _, none⟩) (bn_ hw198_1 GW189) _).trans (((cell_far (p := ⟨gb189, _, none⟩) (bn_ hw198_1 GW189) _).trans (((cell_far (p := ⟨gb189, _, none⟩) (bn_ hw198_1 GW189) _).trans (hHeld.2.1)))))), ((cell_far (p := ⟨gb189, _, none⟩) (bn_ hw198_2 GW189) _).trans (((cell_far (p := ⟨gb189, _, none⟩) (bn_ hw198_2 GW189) _).trans (((cell_far (p := ⟨gb189, _, none⟩) (bn_ hw198_2 GW189) _).trans (hHeld.2.2.1)))))), ((cell_far (p := ⟨gb189, _, none⟩) (bn_ hw198_3 GW189) _).trans (((cell_far (p := ⟨gb189, _, none⟩) (bn_ hw198_3 GW189) _).trans (((cell_far (p := ⟨gb189, _, none⟩) (bn_ hw198_3 GW189) _).trans (hHeld.2.2.2.1)))))), ((cell_far (p := ⟨gb189, _, none⟩) (bn_ hw199_0 GW189) _).trans (((cell_far (p := ⟨gb189, _, none⟩) (bn_ hw199_0 GW189) _).trans (((cell_far (p := ⟨gb189, _, none⟩) (bn_ hw199_0 GW189) _).trans (hHeld.2.2.2.2.1)))))), ((cell_far (p := ⟨gb189, _, none⟩) (bn_ hw199_1 GW189) _).trans (((cell_far (p := ⟨gb189, _, none⟩) (bn_ hw199_1 GW189) _).trans (((cell_far (p := ⟨gb189, _, none⟩) (bn_ hw199_1 GW189) _).trans (hHeld.2.2.2.2.2.1)))))), ((cell_far (p := ⟨gb189, _, none⟩) (bn_ hw199_2 GW189) _).trans (((cell_far (p := ⟨gb189, _, none⟩) (bn_ hw199_2 GW189) _).trans (((cell_far (p := ⟨gb189, _, none⟩) (bn_ hw199_2 GW189) _).trans (hHeld.2.2.2.2.2.2.1)))))), ((cell_far (p := ⟨gb189, _, none⟩) (bn_ hw199_3 GW189) _).trans (((cell_far (p := ⟨gb189, _, none⟩) (bn_ hw199_3 GW189) _).trans (((cell_far (p := ⟨gb189, _, none⟩) (bn_ hw199_3 GW189) _).trans (hHeld.2.2.2.2.2.2.2))))))⟩ (fun hHeld => ?_)
           clear hK K
           refine done_ (done_of HT_.out (by kernel_rfl)) ?_
           try go_wp2
           refine bodyPost_ret (results_cell_row rfl _ _ gb189 30 #[.int .i64 3, .int .i64 ((rd_T34 l1 x6_2).f0), .int .i64 ((rd_T34 l1 x6_2).f1)] (0, 0) _ rfl (by (with_reducible repeat (first | refine kN_ ?_ _ | refine kD_ ?_ | refine kA_ ?_ _)); refine blk_put (cs := #[.int .i64 3, .int .i64 ((rd_T34 l1 x6_2).f0), .int .i64 x190002_2]) ?_ 2 _ rfl; (with_reducible repeat (first | refine kN_ ?_ _ | refine kD_ ?_ | refine kA_ ?_ _)); refine blk_put (cs := #[.int .i64 3, .int .i64 x190001_2, .int .i64 x190002_2]) ?_ 1 _ rfl; (with_reducible repeat (first | refine kN_ ?_ _ | refine kD_ ?_ | refine kA_ ?_ _)); refine blk_put (cs := #[.int .i64 x190000_2, .int .i64 x190001_2, .int .i64 x190002_2]) ?_ 0 _ rfl; (with_reducible repeat (first | refine kN_ ?_ _ | refine kD_ ?_ | refine kA_ ?_ _)); exact BK189.out) Try.underlying30 rfl (by kernel_rfl)) rfl ?_
           exact ⟨by first | rfl | (simp [errW_none, errW_some] <;> rfl) | (simp only [← hji18]; first | rfl | (simp [errW_none, errW_some] <;> rfl)) | (simp [*, errW_none, errW_some] <;> rfl), by repeat (first | (with_reducible first | exact HB.out | apply bA_ | apply bN_ | apply bD_ | refine bS_ ?_ GE189.out) | exact HB.out)⟩
          ·rw [if_neg c21] at H
           have c21b0 := decide_eq_false c21
           clear c21
           have H' := a0_ H
           clear H
           try go_wp2
           replace BK189 := a0_ (kD_ BK189.out)
           replace HB := a0_ (bD_ HB.out)
           have p196 : 0 ≤ (x6_2 : Int) := od_ (by assumption)
           have q196 : x6_2 < (l1.length : Int) := od_ (by assumption)
           obtain ⟨ad196, e196, hx196_0, hx196_1, hx196_2, hx196_3⟩ := at_T34 HR1.out x6_2 p196 q196
           have hw196_3 := hx196_3
           have hw196_2 := hx196_2
           have hw196_1 := hx196_1
           have hw196_0 := hx196_0
           cases e196
           replace hx196_0 := (HB.out.cell (bl_ w _ hx196_0)).trans hx196_0
           replace hx196_1 := (HB.out.cell (bl_ w _ hx196_1)).trans hx196_1
           replace hx196_2 := (HB.out.cell (bl_ w _ hx196_2)).trans hx196_2
           replace hx196_3 := (HB.out.cell (bl_ w _ hx196_3)).trans hx196_3
           replace p196 := eq_true p196
           replace q196 := eq_true q196
           have p197 : 0 ≤ ((ji18) : Int) := od_ (by assumption)
           have q197 : (ji18) < (l1.length : Int) := od_ (by assumption)
           obtain ⟨ad197, e197, hx197_0, hx197_1, hx197_2, hx197_3⟩ := at_T34 HR1.out (ji18) p197 q197
           have hw197_3 := hx197_3
           have hw197_2 := hx197_2
           have hw197_1 := hx197_1
           have hw197_0 := hx197_0
           obtain rfl : ad196 = ad197 := (by injection e197)
           replace hx197_0 := (HB.out.cell (bl_ w _ hx197_0)).trans hx197_0
           replace hx197_1 := (HB.out.cell (bl_ w _ hx197_1)).trans hx197_1
           replace hx197_2 := (HB.out.cell (bl_ w _ hx197_2)).trans hx197_2
           replace hx197_3 := (HB.out.cell (bl_ w _ hx197_3)).trans hx197_3
           replace p197 := eq_true p197
           replace q197 := eq_true q197
           refine start_ (n := 12) (S := fun w' => w'.cell? (ad196.add ((x6_2).toNat * 4)) = some (.int .i64 ((rd_T34 l1 x6_2).f0)) ∧ w'.cell? ⟨(ad196.add ((x6_2).toNat * 4)).block, (ad196.add ((x6_2).toNat * 4)).off + 1, none⟩ = some (.int .i64 ((rd_T34 l1 x6_2).f1)) ∧ w'.cell? ⟨(ad196.add ((x6_2).toNat * 4)).block, (ad196.add ((x6_2).toNat * 4)).off + 2, none⟩ = some (.int .i64 ((rd_T34 l1 x6_2).f2)) ∧ w'.cell? ⟨(ad196.add ((x6_2).toNat * 4)).block, (ad196.add ((x6_2).toNat * 4)).off + 3, none⟩ = some (.string ((rd_T34 l1 x6_2).f3)) ∧ w'.cell? (ad196.add (((ji18)).toNat * 4)) = some (.int .i64 ((rd_T34 l1 (ji18)).f0)) ∧ w'.cell? ⟨(ad196.add (((ji18)).toNat * 4)).block, (ad196.add (((ji18)).toNat * 4)).off + 1, none⟩ = some (.int .i64 ((rd_T34 l1 (ji18)).f1)) ∧ w'.cell? ⟨(ad196.add (((ji18)).toNat * 4)).block, (ad196.add (((ji18)).toNat * 4)).off + 2, none⟩ = some (.int .i64 ((rd_T34 l1 (ji18)).f2)) ∧ w'.cell? ⟨(ad196.add (((ji18)).toNat * 4)).block, (ad196.add (((ji18)).toNat * 4)).off + 3, none⟩ = some (.string ((rd_T34 l1 (ji18)).f3))) (ds := []) #[false, false, false, false, false, false, false, false, false, false, false, false] (by kernel_rfl) rfl rfl ⟨((HB.out.cell (bl_ w _ hw196_0)).trans hw196_0), ((HB.out.cell (bl_ w _ hw196_1)).trans hw196_1), ((HB.out.cell (bl_ w _ hw196_2)).trans hw196_2), ((HB.out.cell (bl_ w _ hw196_3)).trans hw196_3), ((HB.out.cell (bl_ w _ hw197_0)).trans hw197_0), ((HB.out.cell (bl_ w _ hw197_1)).trans hw197_1), ((HB.out.cell (bl_ w _ hw197_2)).trans hw197_2), ((HB.out.cell (bl_ w _ hw197_3)).trans hw197_3)⟩ (fun hHeld => ?_); refine with_tabW orielref17_Check.tab9 orielref17_Check.bits9 (fun HT_ HW_ => ?_)
           generalize wr.drew = w27 at BK189 HB hx196_0 hx196_1 hx196_2 hx196_3 hx197_0 hx197_1 hx197_2 hx197_3 hHeld ⊢
           refine pure_ (i := 0) (N := some 48) #[true, false, false, false, false, false, false, false, false, false, false, false] rfl rfl (any_of HT_.out (by kernel_rfl)) (fun _ _ _ h => h) (Or.inl ⟨by rfl, fun w' => by go_simp; with_reducible rfl⟩) (by simp only [ps_]; rfl) ?_
           refine pure_ (i := 1) (N := some 49) #[true, true, false, false, false, false, false, false, false, false, false, false] rfl rfl (any_of HT_.out (by kernel_rfl)) (fun _ _ _ h => h) (Or.inl ⟨by rfl, fun w' => by go_simp; with_reducible rfl⟩) (by simp only [ps_]; rfl) ?_
           refine pure_ (i := 2) (N := some 50) #[true, true, true, false, false, false, false, false, false, false, false, false] rfl rfl (any_of HT_.out (by kernel_rfl)) (fun _ _ _ h => h) (Or.inl ⟨by rfl, fun w' => by go_simp; with_reducible rfl⟩) (by simp only [ps_]; rfl) ?_
           refine pure_ (i := 3) (N := some 51) #[true, true, true, true, false, false, false, false, false, false, false, false] rfl rfl (any_of HT_.out (by kernel_rfl)) (fun _ _ _ h => h) (Or.inl ⟨by rfl, fun w' => by go_simp; with_reducible rfl⟩) (by simp only [ps_]; rfl) ?_
           refine pure_ (i := 5) (N := some 53) #[true, true, true, true, false, true, false, false, false, false, false, false] rfl rfl (any_of HT_.out (by kernel_rfl)) (fun _ _ _ h => h) (Or.inl ⟨by rfl, fun w' => by go_simp; with_reducible rfl⟩) (by simp only [ps_]; rfl) ?_
           refine pure_ (i := 6) (N := some 54) #[true, true, true, true, false, true, true, false, false, false, false, false] rfl rfl (any_of HT_.out (by kernel_rfl)) (fun _ _ _ h => h) (Or.inl ⟨by rfl, fun w' => by go_simp; with_reducible rfl⟩) (by simp only [ps_]; rfl) ?_
           refine pure_ (i := 7) (N := some 55) #[true, true, true, true, false, true, true, true, false, false, false, false] rfl rfl (any_of HT_.out (by kernel_rfl)) (fun _ _ _ h => h) (Or.inl ⟨by rfl, fun w' => by go_simp; with_reducible rfl⟩) (by simp only [ps_]; rfl) ?_
           refine pure_ (i := 8) (N := some 56) #[true, true, true, true, false, true, true, true, true, false, false, false] rfl rfl (any_of HT_.out (by kernel_rfl)) (fun _ _ _ h => h) (Or.inl ⟨by rfl, fun w' => by go_simp; with_reducible rfl⟩) (by simp only [ps_]; rfl) ?_
           refine pure_ (i := 9) (N := some 57) #[true, true, true, true, false, true, true, true, true, true, false, false] rfl rfl (any_of HT_.out (by kernel_rfl)) (fun _ _ _ h => h) (Or.inl ⟨by rfl, fun w' => by go_simp; with_reducible rfl⟩) (by simp only [ps_]; rfl) ?_
           refine take_ (i := 4) (N := some 52) (v := ?_) (a' := ?_) #[true, true, true, true, true, true, true, true, true, true, false, false] rfl rfl (take_ofW HT_.out HW_.out (by kernel_rfl)) (fun _ _ _ h => h) (Or.inl ⟨by rfl, ?_⟩) hHeld ?_ ?_
           rotate_left
           ·rintro w' ⟨s0, s1, s2, s3, s4, s5, s6, s7⟩
            go_simp
            with_reducible rfl
           rotate_left
           ·simp only [ps_]
            rfl
           refine take_ (i := 10) (N := some 58) (v := ?_) (a' := ?_) #[true, true, true, true, true, true, true, true, true, true, true, false] rfl rfl (take_ofW HT_.out HW_.out (by kernel_rfl)) (fun _ _ _ h => h) (Or.inl ⟨by rfl, ?_⟩) hHeld ?_ ?_
           rotate_left
           ·rintro w' ⟨s0, s1, s2, s3, s4, s5, s6, s7⟩
            go_simp
            with_reducible rfl
           rotate_left
           ·simp only [ps_]
            rfl
           refine pure_ (i := 11) (N := some 59) #[true, true, true, true, true, true, true, true, true, true, true, true] rfl rfl (any_of HT_.out (by kernel_rfl)) (fun _ _ _ h => h) (Or.inl ⟨by rfl, fun w' => by go_simp; with_reducible rfl⟩) (by simp only [ps_]; rfl) ?_
           refine done_ (done_of HT_.out (by kernel_rfl)) ?_
           try go_wp2
           go_roundg k2
           case measure => have := HK1.out; have := HK2.out; omega
           case rel => exact ⟨(wrap64 (x6_2 + 1)), (x190000_2), (x190001_2), (x190002_2), (by first | rfl | (simp; done) | (simp [*]; done)), H', ⟨by have := HK1.out; have := HK2.out; omega⟩, ⟨by exact BK189.out⟩, ⟨by exact HB.out⟩⟩
         ·rw [if_neg c20] at H
          exact absurd H (by simp)
        ·rw [if_neg c19] at H
         exact absurd H (by simp)
       ·rw [if_neg c17] at H
        exact absurd H (by simp)
      ·rw [if_neg c16] at H
       have c16b0 := decide_eq_false c16
       clear c16
       have H' := a0_ H
       clear H
       go_wp2
       go_loopg [7] k2 (fun kq v7 w' => ∃ (x7_3 : Int) (x190000_3 : Int) (x190001_3 : Int) (x190002_3 : Int), v7 = .int .i64 x7_3 ∧ Aside0 (orielref17_Check.l2 kq l0 l1 x7_3 = some (r1, r2, r3)) ∧ Aside0 (kq ≤ k2) ∧ Aside0 (w'.heap[gb189]? = some (.cells #[.int .i64 x190000_3, .int .i64 x190001_3, .int .i64 x190002_3] 30 (0, 0))) ∧ Aside0 (Below w.heap.size w w'))
       case atStart => exact ⟨(0), (x190000_2), (x190001_2), (x190002_2), (by first | rfl | (simp; done) | (simp [*]; done)), H', ⟨Nat.le_refl _⟩, ⟨by exact BK189.out⟩, ⟨by exact HB.out⟩⟩
       case round =>
        clear H'
        obtain ⟨x7_3, x190000_3, x190001_3, x190002_3, rfl, HA, HK3, BK189, HB⟩ := hrel
        cases gk with
        | zero => exact absurd HA.out (by simp [orielref17_Check.l2])
        | succ k3 =>
         have H := HA.out
         clear HA
         simp only [orielref17_Check.l2] at H
         by_cases c28 : x7_3 < (l0.length : Int)
         ·rw [if_pos c28] at H
          have c28b0 := decide_eq_true c28
          clear c28
          by_cases c29 : 0 ≤ x7_3
          ·rw [if_pos c29] at H
           have c29b0 := decide_eq_true c29
           clear c29
           replace H := ob_ H
           obtain ⟨t201, A300, H⟩ := H
           replace H : ((orielref02_Check.f k3 (((rd_T36 l0 x7_3).f1).size : Int) t201).bind fun t204 => (if t204 = 0 then (orielref17_Check.l2 k3 l0 l1 (wrap64 (x7_3 + 1))) else (some (t204, x7_3, 0)))) = some (r1, r2, r3) := H
           have A30 := a0_ A300
           clear A300
           replace H := ob_ H
           obtain ⟨t204, A310, H⟩ := H
           replace H : (if t204 = 0 then (orielref17_Check.l2 k3 l0 l1 (wrap64 (x7_3 + 1))) else (some (t204, x7_3, 0))) = some (r1, r2, r3) := H
           have A31 := a0_ A310
           clear A310
           by_cases c32 : t204 = 0
           ·rw [if_pos c32] at H
            have c32b0 : (t204 == 0) = true := beq_iff_eq.mpr c32
            have c32b1 : (t204 != 0) = false := bne_eq_false_iff_eq.mpr c32
            clear c32
            have H' := a0_ H
            clear H
            try go_wp2
            replace BK189 := a0_ (kD_ BK189.out)
            replace HB := a0_ (bD_ HB.out)
            have p200 : 0 ≤ (x7_3 : Int) := od_ (by assumption)
            have q200 : x7_3 < (l0.length : Int) := od_ (by assumption)
            obtain ⟨ad200, e200, hx200_0, hx200_1⟩ := at_T36 HR0.out x7_3 p200 q200
            have hw200_1 := hx200_1
            have hw200_0 := hx200_0
            cases e200
            replace hx200_0 := (HB.out.cell (bl_ w _ hx200_0)).trans hx200_0
            replace hx200_1 := (HB.out.cell (bl_ w _ hx200_1)).trans hx200_1
            replace p200 := eq_true p200
            replace q200 := eq_true q200
            refine start_ (n := 11) (S := fun w' => w'.cell? (ad200.add ((x7_3).toNat * 2)) = some (.string ((rd_T36 l0 x7_3).f0)) ∧ w'.cell? ⟨(ad200.add ((x7_3).toNat * 2)).block, (ad200.add ((x7_3).toNat * 2)).off + 1, none⟩ = some (.string ((rd_T36 l0 x7_3).f1))) (ds := []) #[false, false, false, false, false, false, false, false, false, false, false] (by kernel_rfl) rfl rfl ⟨((HB.out.cell (bl_ w _ hw200_0)).trans hw200_0), ((HB.out.cell (bl_ w _ hw200_1)).trans hw200_1)⟩ (fun hHeld => ?_); refine with_tabW orielref17_Check.tab14 orielref17_Check.bits14 (fun HT_ HW_ => ?_)
            generalize wr.drew = w33 at BK189 HB hx200_0 hx200_1 hHeld ⊢
            refine pure_ (i := 0) (N := some 77) #[true, false, false, false, false, false, false, false, false, false, false] rfl rfl (any_of HT_.out (by kernel_rfl)) (fun _ _ _ h => h) (Or.inl ⟨by rfl, fun w' => by go_simp; with_reducible rfl⟩) (by simp only [ps_]; rfl) ?_
            refine pure_ (i := 1) (N := some 78) #[true, true, false, false, false, false, false, false, false, false, false] rfl rfl (any_of HT_.out (by kernel_rfl)) (fun _ _ _ h => h) (Or.inl ⟨by rfl, fun w' => by go_simp; with_reducible rfl⟩) (by simp only [ps_]; rfl) ?_
            refine pure_ (i := 2) (N := some 79) #[true, true, true, false, false, false, false, false, false, false, false] rfl rfl (any_of HT_.out (by kernel_rfl)) (fun _ _ _ h => h) (Or.inl ⟨by rfl, fun w' => by go_simp; with_reducible rfl⟩) (by simp only [ps_]; rfl) ?_
            refine pure_ (i := 3) (N := some 80) #[true, true, true, true, false, false, false, false, false, false, false] rfl rfl (any_of HT_.out (by kernel_rfl)) (fun _ _ _ h => h) (Or.inl ⟨by rfl, fun w' => by go_simp; with_reducible rfl⟩) (by simp only [ps_]; rfl) ?_
            refine pure_ (i := 6) (N := some 83) #[true, true, true, true, false, false, true, false, false, false, false] rfl rfl (any_of HT_.out (by kernel_rfl)) (fun _ _ _ h => h) (Or.inl ⟨by rfl, fun w' => by go_simp; with_reducible rfl⟩) (by simp only [ps_]; rfl) ?_
            refine pure_ (i := 7) (N := some 84) #[true, true, true, true, false, false, true, true, false, false, false] rfl rfl (any_of HT_.out (by kernel_rfl)) (fun _ _ _ h => h) (Or.inl ⟨by rfl, fun w' => by go_simp; with_reducible rfl⟩) (by simp only [ps_]; rfl) ?_
            refine take_ (i := 4) (N := some 81) (v := ?_) (a' := ?_) #[true, true, true, true, true, false, true, true, false, false, false] rfl rfl (take_ofW HT_.out HW_.out (by kernel_rfl)) (fun _ _ _ h => h) (Or.inl ⟨by rfl, ?_⟩) hHeld ?_ ?_
            rotate_left
            ·rintro w' ⟨s0, s1⟩
             go_simp
             with_reducible rfl
            rotate_left
            ·simp only [ps_]
             rfl
            refine pure_ (i := 5) (N := some 82) #[true, true, true, true, true, true, true, true, false, false, false] rfl rfl (any_of HT_.out (by kernel_rfl)) (fun _ _ _ h => h) (Or.inl ⟨by rfl, fun w' => by go_simp; with_reducible rfl⟩) (by simp only [ps_]; rfl) ?_
            refine one_ (i := 8) (N := some 85) #[true, true, true, true, true, true, true, true, true, false, false] rfl rfl (one_of HT_.out (by kernel_rfl)) (by decide) (fun K hK => ?_)
            refine goes_ Try.func26 (by kernel_rfl) rfl #[.int .i64 x7_3, .slice A1 l1.length c1] (by rfl) rfl rfl (by (try simp only [List.map_toArray, List.map_cons, List.map_nil]); first | done | rfl | (simp only [List.length_drop, List.length_take]; rfl)) ?_
            with_reducible refine (orielref17_Of.calls k3 x7_3 _ _ l1 t201 _ ?side1 ?side2 A30.out).mono ?_
            (case side1 => repeat (first | exact (Kd.C_below HR1.out HB.out) | (with_reducible refine Kd.C_alloc ?_ _) | (with_reducible refine Kd.C_drewN ?_ _) | (with_reducible refine Kd.C_drew ?_)))
            (case side2 => exact HC1.out)
            rintro e w34 ⟨v202, rfl, ho0, hb⟩
            refine ⟨_, rfl, ?_⟩
            have HO203 := a0_ (Kd.R_lower ho0 (bZ_ (by exact HB.out)))
            replace BK189 := a0_ (kB_ (g := gb189) (o := .cells #[.int .i64 x190000_3, .int .i64 x190001_3, .int .i64 x190002_3] 30 (0, 0)) (by exact BK189.out) hb)
            replace HB := a0_ (bT_ (by exact HB.out) hb)
            obtain ⟨Ao35, co35, eo35⟩ := Kd.R_slice HO203.out
            (first | subst eo35 | (injection eo35 with f1_ f2_ f3_; have f4_ := f1_.symm; have f5_ := f3_.symm; clear f1_ f2_ f3_; subst f4_; subst f5_))
            refine hK.out _ _ ⟨((HB.out.cell (bl_ w _ hw200_0)).trans hw200_0), ((HB.out.cell (bl_ w _ hw200_1)).trans hw200_1)⟩ (fun hHeld => ?_)
            clear hK K
            refine norm_ (a' := ?_) ?_ ?_
            rotate_left
            ·show Act.put _ (some 85) _ = _
             simp only [ps_]
             rfl
            refine one_ (i := 9) (N := some 86) #[true, true, true, true, true, true, true, true, true, true, false] rfl rfl (one_of HT_.out (by kernel_rfl)) (by decide) (fun K hK => ?_)
            refine goes_ Try.func36 (by kernel_rfl) rfl #[.int .i64 (((rd_T36 l0 x7_3).f1).size : Int), .slice Ao35 t201.length co35] (by rfl) rfl rfl (by (try simp only [List.map_toArray, List.map_cons, List.map_nil]); first | done | rfl | (simp only [List.length_drop, List.length_take]; rfl)) ?_
            with_reducible refine (orielref02_Check.calls k3 (((rd_T36 l0 x7_3).f1).size : Int) _ _ t201 t204 _ ?side1 ?side2 A31.out).mono ?_
            (case side1 => repeat (first | exact (Kd.R_reads' HO203.out).2.2 | (with_reducible refine Kd.C_alloc ?_ _) | (with_reducible refine Kd.C_drewN ?_ _) | (with_reducible refine Kd.C_drew ?_)))
            (case side2 => exact (Kd.R_reads' HO203.out).2.1)
            rintro e w' ⟨rfl, ⟨nd, rfl⟩⟩
            refine ⟨_, rfl, ?_⟩
            refine hK.out _ _ ⟨((HB.out.cell (bl_ w _ hw200_0)).trans hw200_0), ((HB.out.cell (bl_ w _ hw200_1)).trans hw200_1)⟩ (fun hHeld => ?_)
            clear hK K
            refine norm_ (a' := ?_) ?_ ?_
            rotate_left
            ·show Act.put _ (some 86) _ = _
             simp only [ps_]
             rfl
            refine pure_ (i := 10) (N := some 8) #[true, true, true, true, true, true, true, true, true, true, true] rfl rfl (any_of HT_.out (by kernel_rfl)) (fun _ _ _ h => h) (Or.inl ⟨by rfl, fun w' => by go_simp; with_reducible rfl⟩) (by simp only [ps_]; rfl) ?_
            refine done_ (done_of HT_.out (by kernel_rfl)) ?_
            try go_wp2
            go_roundg k3
            case measure => have := HK1.out; have := HK2.out; have := HK3.out; omega
            case rel => exact ⟨(wrap64 (x7_3 + 1)), (x190000_3), (x190001_3), (x190002_3), (by first | rfl | (simp; done) | (simp [*]; done)), H', ⟨by have := HK1.out; have := HK2.out; have := HK3.out; omega⟩, ⟨by (with_reducible repeat (first | refine kN_ ?_ _ | refine kD_ ?_ | refine kA_ ?_ _)); exact BK189.out⟩, ⟨by repeat (first | (with_reducible first | exact HB.out | apply bA_ | apply bN_ | apply bD_ | refine bS_ ?_ GE189.out) | exact HB.out)⟩⟩
           ·rw [if_neg c32] at H
            have c32b0 : (t204 == 0) = false := beq_eq_false_iff_ne.mpr c32
            have c32b1 : (t204 != 0) = true := bne_iff_ne.mpr c32
            simp only [Option.some.injEq, Prod.mk.injEq] at H
            obtain ⟨rfl, rfl, rfl⟩ := H
            try go_wp2
            replace BK189 := a0_ (kD_ BK189.out)
            replace HB := a0_ (bD_ HB.out)
            have p200 : 0 ≤ (x7_3 : Int) := od_ (by assumption)
            have q200 : x7_3 < (l0.length : Int) := od_ (by assumption)
            obtain ⟨ad200, e200, hx200_0, hx200_1⟩ := at_T36 HR0.out x7_3 p200 q200
            have hw200_1 := hx200_1
            have hw200_0 := hx200_0
            cases e200
            replace hx200_0 := (HB.out.cell (bl_ w _ hx200_0)).trans hx200_0
            replace hx200_1 := (HB.out.cell (bl_ w _ hx200_1)).trans hx200_1
            replace p200 := eq_true p200
            replace q200 := eq_true q200
            refine start_ (n := 11) (S := fun w' => w'.cell? (ad200.add ((x7_3).toNat * 2)) = some (.string ((rd_T36 l0 x7_3).f0)) ∧ w'.cell? ⟨(ad200.add ((x7_3).toNat * 2)).block, (ad200.add ((x7_3).toNat * 2)).off + 1, none⟩ = some (.string ((rd_T36 l0 x7_3).f1))) (ds := []) #[false, false, false, false, false, false, false, false, false, false, false] (by kernel_rfl) rfl rfl ⟨((HB.out.cell (bl_ w _ hw200_0)).trans hw200_0), ((HB.out.cell (bl_ w _ hw200_1)).trans hw200_1)⟩ (fun hHeld => ?_); refine with_tabW orielref17_Check.tab14 orielref17_Check.bits14 (fun HT_ HW_ => ?_)
            generalize wr.drew = w36 at BK189 HB hx200_0 hx200_1 hHeld ⊢
            refine pure_ (i := 0) (N := some 77) #[true, false, false, false, false, false, false, false, false, false, false] rfl rfl (any_of HT_.out (by kernel_rfl)) (fun _ _ _ h => h) (Or.inl ⟨by rfl, fun w' => by go_simp; with_reducible rfl⟩) (by simp only [ps_]; rfl) ?_
            refine pure_ (i := 1) (N := some 78) #[true, true, false, false, false, false, false, false, false, false, false] rfl rfl (any_of HT_.out (by kernel_rfl)) (fun _ _ _ h => h) (Or.inl ⟨by rfl, fun w' => by go_simp; with_reducible rfl⟩) (by simp only [ps_]; rfl) ?_
            refine pure_ (i := 2) (N := some 79) #[true, true, true, false, false, false, false, false, false, false, false] rfl rfl (any_of HT_.out (by kernel_rfl)) (fun _ _ _ h => h) (Or.inl ⟨by rfl, fun w' => by go_simp; with_reducible rfl⟩) (by simp only [ps_]; rfl) ?_
            refine pure_ (i := 3) (N := some 80) #[true, true, true, true, false, false, false, false, false, false, false] rfl rfl (any_of HT_.out (by kernel_rfl)) (fun _ _ _ h => h) (Or.inl ⟨by rfl, fun w' => by go_simp; with_reducible rfl⟩) (by simp only [ps_]; rfl) ?_
            refine pure_ (i := 6) (N := some 83) #[true, true, true, true, false, false, true, false, false, false, false] rfl rfl (any_of HT_.out (by kernel_rfl)) (fun _ _ _ h => h) (Or.inl ⟨by rfl, fun w' => by go_simp; with_reducible rfl⟩) (by simp only [ps_]; rfl) ?_
            refine pure_ (i := 7) (N := some 84) #[true, true, true, true, false, false, true, true, false, false, false] rfl rfl (any_of HT_.out (by kernel_rfl)) (fun _ _ _ h => h) (Or.inl ⟨by rfl, fun w' => by go_simp; with_reducible rfl⟩) (by simp only [ps_]; rfl) ?_
            refine take_ (i := 4) (N := some 81) (v := ?_) (a' := ?_) #[true, true, true, true, true, false, true, true, false, false, false] rfl rfl (take_ofW HT_.out HW_.out (by kernel_rfl)) (fun _ _ _ h => h) (Or.inl ⟨by rfl, ?_⟩) hHeld ?_ ?_
            rotate_left
            ·rintro w' ⟨s0, s1⟩
             go_simp
             with_reducible rfl
            rotate_left
            ·simp only [ps_]
             rfl
            refine pure_ (i := 5) (N := some 82) #[true, true, true, true, true, true, true, true, false, false, false] rfl rfl (any_of HT_.out (by kernel_rfl)) (fun _ _ _ h => h) (Or.inl ⟨by rfl, fun w' => by go_simp; with_reducible rfl⟩) (by simp only [ps_]; rfl) ?_
            refine one_ (i := 8) (N := some 85) #[true, true, true, true, true, true, true, true, true, false, false] rfl rfl (one_of HT_.out (by kernel_rfl)) (by decide) (fun K hK => ?_)
            refine goes_ Try.func26 (by kernel_rfl) rfl #[.int .i64 x7_3, .slice A1 l1.length c1] (by rfl) rfl rfl (by (try simp only [List.map_toArray, List.map_cons, List.map_nil]); first | done | rfl | (simp only [List.length_drop, List.length_take]; rfl)) ?_
            with_reducible refine (orielref17_Of.calls k3 x7_3 _ _ l1 t201 _ ?side1 ?side2 A30.out).mono ?_
            (case side1 => repeat (first | exact (Kd.C_below HR1.out HB.out) | (with_reducible refine Kd.C_alloc ?_ _) | (with_reducible refine Kd.C_drewN ?_ _) | (with_reducible refine Kd.C_drew ?_)))
            (case side2 => exact HC1.out)
            rintro e w37 ⟨v202, rfl, ho0, hb⟩
            refine ⟨_, rfl, ?_⟩
            have HO203 := a0_ (Kd.R_lower ho0 (bZ_ (by exact HB.out)))
            replace BK189 := a0_ (kB_ (g := gb189) (o := .cells #[.int .i64 x190000_3, .int .i64 x190001_3, .int .i64 x190002_3] 30 (0, 0)) (by exact BK189.out) hb)
            replace HB := a0_ (bT_ (by exact HB.out) hb)
            obtain ⟨Ao38, co38, eo38⟩ := Kd.R_slice HO203.out
            (first | subst eo38 | (injection eo38 with f1_ f2_ f3_; have f4_ := f1_.symm; have f5_ := f3_.symm; clear f1_ f2_ f3_; subst f4_; subst f5_))
            refine hK.out _ _ ⟨((HB.out.cell (bl_ w _ hw200_0)).trans hw200_0), ((HB.out.cell (bl_ w _ hw200_1)).trans hw200_1)⟩ (fun hHeld => ?_)
            clear hK K
            refine norm_ (a' := ?_) ?_ ?_
            rotate_left
            ·show Act.put _ (some 85) _ = _
             simp only [ps_]
             rfl
            refine one_ (i := 9) (N := some 86) #[true, true, true, true, true, true, true, true, true, true, false] rfl rfl (one_of HT_.out (by kernel_rfl)) (by decide) (fun K hK => ?_)
            refine goes_ Try.func36 (by kernel_rfl) rfl #[.int .i64 (((rd_T36 l0 x7_3).f1).size : Int), .slice Ao38 t201.length co38] (by rfl) rfl rfl (by (try simp only [List.map_toArray, List.map_cons, List.map_nil]); first | done | rfl | (simp only [List.length_drop, List.length_take]; rfl)) ?_
            with_reducible refine (orielref02_Check.calls k3 (((rd_T36 l0 x7_3).f1).size : Int) _ _ t201 t204 _ ?side1 ?side2 A31.out).mono ?_
            (case side1 => repeat (first | exact (Kd.R_reads' HO203.out).2.2 | (with_reducible refine Kd.C_alloc ?_ _) | (with_reducible refine Kd.C_drewN ?_ _) | (with_reducible refine Kd.C_drew ?_)))
            (case side2 => exact (Kd.R_reads' HO203.out).2.1)
            rintro e w' ⟨rfl, ⟨nd, rfl⟩⟩
            refine ⟨_, rfl, ?_⟩
            refine hK.out _ _ ⟨((HB.out.cell (bl_ w _ hw200_0)).trans hw200_0), ((HB.out.cell (bl_ w _ hw200_1)).trans hw200_1)⟩ (fun hHeld => ?_)
            clear hK K
            refine norm_ (a' := ?_) ?_ ?_
            rotate_left
            ·show Act.put _ (some 86) _ = _
             simp only [ps_]
             rfl
            refine pure_ (i := 10) (N := some 8) #[true, true, true, true, true, true, true, true, true, true, true] rfl rfl (any_of HT_.out (by kernel_rfl)) (fun _ _ _ h => h) (Or.inl ⟨by rfl, fun w' => by go_simp; with_reducible rfl⟩) (by simp only [ps_]; rfl) ?_
            refine done_ (done_of HT_.out (by kernel_rfl)) ?_
            have hcz39_0 : w37.cell? ⟨gb189, 0, none⟩ = some (.int .i64 x190000_3) := (blk_cell BK189.out 0).trans rfl
            have hcz39_1 : w37.cell? ⟨gb189, 1, none⟩ = some (.int .i64 x190001_3) := (blk_cell BK189.out 1).trans rfl
            have hcz39_2 : w37.cell? ⟨gb189, 2, none⟩ = some (.int .i64 x190002_3) := (blk_cell BK189.out 2).trans rfl
            have hfz39_0 := kF_ BK189.out 0
            have hfz39_1 := kF_ BK189.out 1
            have hfz39_2 := kF_ BK189.out 2
            try go_wp2
            refine bodyPost_ret (results_cell_row rfl _ _ gb189 30 #[.int .i64 t204, .int .i64 x7_3, .int .i64 0] (0, 0) _ rfl (by (with_reducible repeat (first | refine kN_ ?_ _ | refine kD_ ?_ | refine kA_ ?_ _)); refine blk_put (cs := #[.int .i64 t204, .int .i64 x7_3, .int .i64 x190002_3]) ?_ 2 _ rfl; (with_reducible repeat (first | refine kN_ ?_ _ | refine kD_ ?_ | refine kA_ ?_ _)); refine blk_put (cs := #[.int .i64 t204, .int .i64 x190001_3, .int .i64 x190002_3]) ?_ 1 _ rfl; (with_reducible repeat (first | refine kN_ ?_ _ | refine kD_ ?_ | refine kA_ ?_ _)); refine blk_put (cs := #[.int .i64 x190000_3, .int .i64 x190001_3, .int .i64 x190002_3]) ?_ 0 _ rfl; (with_reducible repeat (first | refine kN_ ?_ _ | refine kD_ ?_ | refine kA_ ?_ _)); exact BK189.out) Try.underlying30 rfl (by kernel_rfl)) rfl ?_
            exact ⟨by first | rfl | (simp [errW_none, errW_some] <;> rfl) | (simp [*, errW_none, errW_some] <;> rfl), by repeat (first | (with_reducible first | exact HB.out | apply bA_ | apply bN_ | apply bD_ | refine bS_ ?_ GE189.out) | exact HB.out)⟩
          ·rw [if_neg c29] at H
           exact absurd H (by simp)
         ·rw [if_neg c28] at H
          have c28b0 := decide_eq_false c28
          clear c28
          simp only [Option.some.injEq, Prod.mk.injEq] at H
          obtain ⟨rfl, rfl, rfl⟩ := H
          have hcz40_0 : wr.cell? ⟨gb189, 0, none⟩ = some (.int .i64 x190000_3) := (blk_cell BK189.out 0).trans rfl
          have hcz40_1 : wr.cell? ⟨gb189, 1, none⟩ = some (.int .i64 x190001_3) := (blk_cell BK189.out 1).trans rfl
          have hcz40_2 : wr.cell? ⟨gb189, 2, none⟩ = some (.int .i64 x190002_3) := (blk_cell BK189.out 2).trans rfl
          have hfz40_0 := kF_ BK189.out 0
          have hfz40_1 := kF_ BK189.out 1
          have hfz40_2 := kF_ BK189.out 2
          go_wp2
          refine bodyPost_ret (results_cell_row rfl _ _ gb189 30 #[.int .i64 0, .int .i64 0, .int .i64 0] (0, 0) _ rfl (by refine blk_put (cs := #[.int .i64 0, .int .i64 0, .int .i64 x190002_3]) ?_ 2 _ rfl; refine blk_put (cs := #[.int .i64 0, .int .i64 x190001_3, .int .i64 x190002_3]) ?_ 1 _ rfl; refine blk_put (cs := #[.int .i64 x190000_3, .int .i64 x190001_3, .int .i64 x190002_3]) ?_ 0 _ rfl; exact BK189.out) Try.underlying30 rfl (by kernel_rfl)) rfl ?_
          exact ⟨by first | rfl | (simp [errW_none, errW_some] <;> rfl) | (simp [*, errW_none, errW_some] <;> rfl), by repeat (first | (with_reducible first | exact HB.out | apply bA_ | apply bN_ | apply bD_ | refine bS_ ?_ GE189.out) | exact HB.out)⟩
end Go.Proofs.Ytclcnglamlegiaa.PMD
