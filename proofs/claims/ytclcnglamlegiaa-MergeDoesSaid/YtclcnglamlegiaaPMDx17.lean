-- Written by ownprint.py, a program of this session (out of the kit's print, with contracts of the session's own).
import Derived.Test.YtclcnglamlegiaaWMore
import Derived.Test.YtclcnglamlegiaaPMDx0
namespace Go.Proofs.Ytclcnglamlegiaa.PMD
open Go.RowKit Go.Proofs.YtclcnglamlegiaaW.PrintWords Go.Proofs.YtclcnglamlegiaaW.PrintLast Go.Proofs.YtclcnglamlegiaaW.PrintMore
attribute [local go_sem] max2_int min2_int max_two min_two max_three min_three max_four min_four   -- for this text's walks alone
set_option linter.unusedVariables false
set_option linter.unusedSimpArgs false
/-! ### orielref17_Of: function 26 -/
def orielref17_Of.l0 : Nat → Int → List (S34) → List (S58) → Int → Option ((List (S58)))
 | 0, _, _, _, _ => none
 | k + 1, x0, x1, x5, x6 => if x6 < (x1.length : Int) then (if 0 ≤ x6 then (if ((rd_T34 x1 x6).f0) = x0 then (if x5.length < 4398046511104 then (orielref17_Of.l0 k x0 x1 (x5 ++ [(⟨(rd_T34 x1 x6).f1, (rd_T34 x1 x6).f2, (rd_T34 x1 x6).f3⟩ : S58)]) (wrap64 (x6 + 1))) else (none)) else (orielref17_Of.l0 k x0 x1 x5 (wrap64 (x6 + 1)))) else (none)) else (some x5)
def orielref17_Of.f (k : Nat) (a0 : Int) (l1 : List (S34)) : Option ((List (S58))) := orielref17_Of.l0 k a0 l1 ([] : List (S58)) 0
def orielref17_Of.T6 : Bool × List (List Nat × List Nat) := (true, [([], []), ([], []), ([], []), ([1, 2], [1, 2]), ([3], [3]), ([4], [4]), ([], []), ([], []), ([6, 7], [6, 7]), ([8], [8]), ([9], [9]), ([], []), ([], []), ([11, 12], [11, 12]), ([13], [13]), ([14], [14]), ([5, 10, 15], [5, 10, 15]), ([16], [16]), ([0, 17], [0, 17]), ([18, 18, 0, 1, 2, 3, 4, 5, 6, 7, 8, 9, 10, 11, 12, 13, 14, 15, 16, 17, 18], [0, 18])])
def orielref17_Of.B6 : List Nat := [0, 0, 0, 6, 14, 30, 0, 0, 192, 448, 960, 0, 0, 6144, 14336, 30720, 65534, 131070, 262143, 524287]
theorem orielref17_Of.tab6 : rtab .any (opsOf Try.f26 6) = orielref17_Of.T6 := by kernel_rfl
theorem orielref17_Of.bits6 : waitsOk orielref17_Of.T6.2 orielref17_Of.B6 = true := by kernel_rfl
set_option maxHeartbeats 8000000 in
set_option maxRecDepth 100000 in
theorem orielref17_Of.calls (k : Nat) (a0 : Int) (A1 : Option Addr) (c1 : Nat) (l1 : List (S34)) (r : List (S58)) (w : World) (hr1 : Kd.C k34 w A1 l1.length l1) (hc1 : l1.length ≤ c1) (h : orielref17_Of.f k a0 l1 = some r) :
  Calls Try.prog 26 #[.int .i64 a0, .slice A1 l1.length c1] w fun e w' => ∃ v0_ : Value, e = .returned (v0_) ∧ Kd.R k58 58 w' w.heap.size (fun _ => True) v0_ r ∧ Below w.heap.size w w' := by
 have hu58 := Try.underlying58
 have HR1 := a0_ hr1
 have HC1 := a0_ hc1
 clear hr1 hc1
 have HB := a0_ (Below.refl w.heap.size w)
 have H : (orielref17_Of.l0 k a0 l1 ([] : List (S58)) 0) = some r := h
 clear h
 have H' := a0_ H
 clear H
 go_enter Try.func26, Try.ntmps26
 go_wp2
 go_loopg [5, 6] k (fun kq v5 v6 w' => ∃ (x5_1 : List (S58)) (x6_1 : Int), v6 = .int .i64 x6_1 ∧ Aside0 (orielref17_Of.l0 kq a0 l1 x5_1 x6_1 = some r) ∧ Aside0 (kq ≤ k) ∧ Aside0 (Kd.R k58 58 w' w.heap.size (fun _ => True) v5 x5_1) ∧ Aside0 (Below w.heap.size w w'))
 case atStart => exact ⟨(([] : List (S58))), (0), (by first | rfl | (simp; done) | (simp [*]; done)), H', ⟨Nat.le_refl _⟩, ⟨by first | exact Kd.R_nil _ _ _ _ _ | exact Kd.N_nil _ _ _ _ _ | exact Kd.V_nil _ _ _ _ _ | exact Kd.Q_nil _ _ _ _ _ | exact Kd.S_nil _ _ _ _ _⟩, ⟨by exact HB.out⟩⟩
 case round =>
  clear H'
  obtain ⟨x5_1, x6_1, rfl, HA, HK1, HO_5, HB⟩ := hrel
  cases gk with
  | zero => exact absurd HA.out (by simp [orielref17_Of.l0])
  | succ k1 =>
   have H := HA.out
   clear HA
   simp only [orielref17_Of.l0] at H
   by_cases c3 : x6_1 < (l1.length : Int)
   ·rw [if_pos c3] at H
    have c3b0 : decide (x6_1 < (l1.length : Int)) = true := decide_eq_true c3
    clear c3
    by_cases c4 : 0 ≤ x6_1
    ·rw [if_pos c4] at H
     have c4b0 : decide (0 ≤ x6_1) = true := decide_eq_true c4
     clear c4
     by_cases c5 : ((rd_T34 l1 x6_1).f0) = a0
     ·rw [if_pos c5] at H
      have c5b0 : (((rd_T34 l1 x6_1).f0) == a0) = true := beq_iff_eq.mpr c5
      have c5b1 : (((rd_T34 l1 x6_1).f0) != a0) = false := bne_eq_false_iff_eq.mpr c5
      clear c5
      by_cases c6 : x5_1.length < 4398046511104
      ·rw [if_pos c6] at H
       have LMc6 := a0_ c6
       clear c6
       obtain ⟨y180, hy180⟩ : ∃ y_ : List (S58), y_ = (x5_1 ++ [(⟨(rd_T34 l1 x6_1).f1, (rd_T34 l1 x6_1).f2, (rd_T34 l1 x6_1).f3⟩ : S58)]) := ⟨_, rfl⟩
       replace H : (orielref17_Of.l0 k1 a0 l1 y180 (wrap64 (x6_1 + 1))) = some r := by first | (rw [hy180]; with_reducible exact H) | (have H2_ := (Option.bind_some _ _).symm.trans H; rw [hy180]; with_reducible exact H2_) | (have H2_ := (Option.bind_some _ _).symm.trans H; with_reducible exact H2_) | with_reducible exact H | (rw [hy180]; exact H) | exact H
       have Ny180 := a0_ hy180
       clear hy180
       have H' := a0_ H
       clear H
       have p176 : 0 ≤ (x6_1 : Int) := od_ (by first | (with_reducible assumption) | assumption)
       have q176 : x6_1 < (l1.length : Int) := od_ (by first | (with_reducible assumption) | assumption)
       obtain ⟨ad176, e176, hx176_0, hx176_1, hx176_2, hx176_3⟩ := at_T34 HR1.out x6_1 p176 q176
       cases e176
       replace hx176_0 := (HB.out.cell (bl_ w _ hx176_0)).trans hx176_0
       replace hx176_1 := (HB.out.cell (bl_ w _ hx176_1)).trans hx176_1
       replace hx176_2 := (HB.out.cell (bl_ w _ hx176_2)).trans hx176_2
       replace hx176_3 := (HB.out.cell (bl_ w _ hx176_3)).trans hx176_3
       replace p176 := eq_true p176
       replace q176 := eq_true q176
       try go_wp2
       replace HO_5 := a0_ (Kd.R_drew HO_5.out)
       replace HB := a0_ (bD_ HB.out)
       have p177 : 0 ≤ (x6_1 : Int) := od_ (by first | (with_reducible assumption) | assumption)
       have q177 : x6_1 < (l1.length : Int) := od_ (by first | (with_reducible assumption) | assumption)
       obtain ⟨ad177, e177, hx177_0, hx177_1, hx177_2, hx177_3⟩ := at_T34 HR1.out x6_1 p177 q177
       have hw177_3 := hx177_3
       have hw177_2 := hx177_2
       have hw177_1 := hx177_1
       have hw177_0 := hx177_0
       obtain rfl : ad176 = ad177 := (by injection e177)
       replace hx177_0 := (HB.out.cell (bl_ w _ hx177_0)).trans hx177_0
       replace hx177_1 := (HB.out.cell (bl_ w _ hx177_1)).trans hx177_1
       replace hx177_2 := (HB.out.cell (bl_ w _ hx177_2)).trans hx177_2
       replace hx177_3 := (HB.out.cell (bl_ w _ hx177_3)).trans hx177_3
       replace p177 := eq_true p177
       replace q177 := eq_true q177
       have p178 : 0 ≤ (x6_1 : Int) := od_ (by first | (with_reducible assumption) | assumption)
       have q178 : x6_1 < (l1.length : Int) := od_ (by first | (with_reducible assumption) | assumption)
       obtain ⟨ad178, e178, hx178_0, hx178_1, hx178_2, hx178_3⟩ := at_T34 HR1.out x6_1 p178 q178
       have hw178_3 := hx178_3
       have hw178_2 := hx178_2
       have hw178_1 := hx178_1
       have hw178_0 := hx178_0
       obtain rfl : ad176 = ad178 := (by injection e178)
       replace hx178_0 := (HB.out.cell (bl_ w _ hx178_0)).trans hx178_0
       replace hx178_1 := (HB.out.cell (bl_ w _ hx178_1)).trans hx178_1
       replace hx178_2 := (HB.out.cell (bl_ w _ hx178_2)).trans hx178_2
       replace hx178_3 := (HB.out.cell (bl_ w _ hx178_3)).trans hx178_3
       replace p178 := eq_true p178
       replace q178 := eq_true q178
       have p179 : 0 ≤ (x6_1 : Int) := od_ (by first | (with_reducible assumption) | assumption)
       have q179 : x6_1 < (l1.length : Int) := od_ (by first | (with_reducible assumption) | assumption)
       obtain ⟨ad179, e179, hx179_0, hx179_1, hx179_2, hx179_3⟩ := at_T34 HR1.out x6_1 p179 q179
       have hw179_3 := hx179_3
       have hw179_2 := hx179_2
       have hw179_1 := hx179_1
       have hw179_0 := hx179_0
       obtain rfl : ad176 = ad179 := (by injection e179)
       replace hx179_0 := (HB.out.cell (bl_ w _ hx179_0)).trans hx179_0
       replace hx179_1 := (HB.out.cell (bl_ w _ hx179_1)).trans hx179_1
       replace hx179_2 := (HB.out.cell (bl_ w _ hx179_2)).trans hx179_2
       replace hx179_3 := (HB.out.cell (bl_ w _ hx179_3)).trans hx179_3
       replace p179 := eq_true p179
       replace q179 := eq_true q179
       refine start_ (n := 20) (S := fun w' => w'.cell? (ad176.add ((x6_1).toNat * 4)) = some (.int .i64 ((rd_T34 l1 x6_1).f0)) ∧ w'.cell? ⟨(ad176.add ((x6_1).toNat * 4)).block, (ad176.add ((x6_1).toNat * 4)).off + 1, none⟩ = some (.int .i64 ((rd_T34 l1 x6_1).f1)) ∧ w'.cell? ⟨(ad176.add ((x6_1).toNat * 4)).block, (ad176.add ((x6_1).toNat * 4)).off + 2, none⟩ = some (.int .i64 ((rd_T34 l1 x6_1).f2)) ∧ w'.cell? ⟨(ad176.add ((x6_1).toNat * 4)).block, (ad176.add ((x6_1).toNat * 4)).off + 3, none⟩ = some (.string ((rd_T34 l1 x6_1).f3)) ∧ w'.cell? (ad176.add ((x6_1).toNat * 4)) = some (.int .i64 ((rd_T34 l1 x6_1).f0)) ∧ w'.cell? ⟨(ad176.add ((x6_1).toNat * 4)).block, (ad176.add ((x6_1).toNat * 4)).off + 1, none⟩ = some (.int .i64 ((rd_T34 l1 x6_1).f1)) ∧ w'.cell? ⟨(ad176.add ((x6_1).toNat * 4)).block, (ad176.add ((x6_1).toNat * 4)).off + 2, none⟩ = some (.int .i64 ((rd_T34 l1 x6_1).f2)) ∧ w'.cell? ⟨(ad176.add ((x6_1).toNat * 4)).block, (ad176.add ((x6_1).toNat * 4)).off + 3, none⟩ = some (.string ((rd_T34 l1 x6_1).f3)) ∧ w'.cell? (ad176.add ((x6_1).toNat * 4)) = some (.int .i64 ((rd_T34 l1 x6_1).f0)) ∧ w'.cell? ⟨(ad176.add ((x6_1).toNat * 4)).block, (ad176.add ((x6_1).toNat * 4)).off + 1, none⟩ = some (.int .i64 ((rd_T34 l1 x6_1).f1)) ∧ w'.cell? ⟨(ad176.add ((x6_1).toNat * 4)).block, (ad176.add ((x6_1).toNat * 4)).off + 2, none⟩ = some (.int .i64 ((rd_T34 l1 x6_1).f2)) ∧ w'.cell? ⟨(ad176.add ((x6_1).toNat * 4)).block, (ad176.add ((x6_1).toNat * 4)).off + 3, none⟩ = some (.string ((rd_T34 l1 x6_1).f3))) (ds := []) #[false, false, false, false, false, false, false, false, false, false, false, false, false, false, false, false, false, false, false, false] (by kernel_rfl) rfl rfl ⟨((HB.out.cell (bl_ w _ hw177_0)).trans hw177_0), ((HB.out.cell (bl_ w _ hw177_1)).trans hw177_1), ((HB.out.cell (bl_ w _ hw177_2)).trans hw177_2), ((HB.out.cell (bl_ w _ hw177_3)).trans hw177_3), ((HB.out.cell (bl_ w _ hw178_0)).trans hw178_0), ((HB.out.cell (bl_ w _ hw178_1)).trans hw178_1), ((HB.out.cell (bl_ w _ hw178_2)).trans hw178_2), ((HB.out.cell (bl_ w _ hw178_3)).trans hw178_3), ((HB.out.cell (bl_ w _ hw179_0)).trans hw179_0), ((HB.out.cell (bl_ w _ hw179_1)).trans hw179_1), ((HB.out.cell (bl_ w _ hw179_2)).trans hw179_2), ((HB.out.cell (bl_ w _ hw179_3)).trans hw179_3)⟩ (fun hHeld => ?_); refine with_tabW orielref17_Of.tab6 orielref17_Of.bits6 (fun HT_ HW_ => ?_)
       generalize wr.drew = w7 at HO_5 HB hx177_0 hx177_1 hx177_2 hx177_3 hx178_0 hx178_1 hx178_2 hx178_3 hx179_0 hx179_1 hx179_2 hx179_3 hHeld ⊢
       refine pure_ (i := 0) (N := some 20) #[true, false, false, false, false, false, false, false, false, false, false, false, false, false, false, false, false, false, false, false] rfl rfl (any_of HT_.out (by kernel_rfl)) (fun _ _ _ h => h) (Or.inl ⟨by rfl, fun w' => by go_simp; with_reducible rfl⟩) (by simp only [ps_]; rfl) ?_
       refine pure_ (i := 1) (N := some 21) #[true, true, false, false, false, false, false, false, false, false, false, false, false, false, false, false, false, false, false, false] rfl rfl (any_of HT_.out (by kernel_rfl)) (fun _ _ _ h => h) (Or.inl ⟨by rfl, fun w' => by go_simp; with_reducible rfl⟩) (by simp only [ps_]; rfl) ?_
       refine pure_ (i := 2) (N := some 22) #[true, true, true, false, false, false, false, false, false, false, false, false, false, false, false, false, false, false, false, false] rfl rfl (any_of HT_.out (by kernel_rfl)) (fun _ _ _ h => h) (Or.inl ⟨by rfl, fun w' => by go_simp; with_reducible rfl⟩) (by simp only [ps_]; rfl) ?_
       refine pure_ (i := 3) (N := some 23) #[true, true, true, true, false, false, false, false, false, false, false, false, false, false, false, false, false, false, false, false] rfl rfl (any_of HT_.out (by kernel_rfl)) (fun _ _ _ h => h) (Or.inl ⟨by rfl, fun w' => by go_simp; with_reducible rfl⟩) (by simp only [ps_]; rfl) ?_
       refine pure_ (i := 4) (N := some 24) #[true, true, true, true, true, false, false, false, false, false, false, false, false, false, false, false, false, false, false, false] rfl rfl (any_of HT_.out (by kernel_rfl)) (fun _ _ _ h => h) (Or.inl ⟨by rfl, fun w' => by go_simp; with_reducible rfl⟩) (by simp only [ps_]; rfl) ?_
       refine pure_ (i := 6) (N := some 26) #[true, true, true, true, true, false, true, false, false, false, false, false, false, false, false, false, false, false, false, false] rfl rfl (any_of HT_.out (by kernel_rfl)) (fun _ _ _ h => h) (Or.inl ⟨by rfl, fun w' => by go_simp; with_reducible rfl⟩) (by simp only [ps_]; rfl) ?_
       refine pure_ (i := 7) (N := some 27) #[true, true, true, true, true, false, true, true, false, false, false, false, false, false, false, false, false, false, false, false] rfl rfl (any_of HT_.out (by kernel_rfl)) (fun _ _ _ h => h) (Or.inl ⟨by rfl, fun w' => by go_simp; with_reducible rfl⟩) (by simp only [ps_]; rfl) ?_
       refine pure_ (i := 8) (N := some 28) #[true, true, true, true, true, false, true, true, true, false, false, false, false, false, false, false, false, false, false, false] rfl rfl (any_of HT_.out (by kernel_rfl)) (fun _ _ _ h => h) (Or.inl ⟨by rfl, fun w' => by go_simp; with_reducible rfl⟩) (by simp only [ps_]; rfl) ?_
       refine pure_ (i := 9) (N := some 29) #[true, true, true, true, true, false, true, true, true, true, false, false, false, false, false, false, false, false, false, false] rfl rfl (any_of HT_.out (by kernel_rfl)) (fun _ _ _ h => h) (Or.inl ⟨by rfl, fun w' => by go_simp; with_reducible rfl⟩) (by simp only [ps_]; rfl) ?_
       refine pure_ (i := 11) (N := some 31) #[true, true, true, true, true, false, true, true, true, true, false, true, false, false, false, false, false, false, false, false] rfl rfl (any_of HT_.out (by kernel_rfl)) (fun _ _ _ h => h) (Or.inl ⟨by rfl, fun w' => by go_simp; with_reducible rfl⟩) (by simp only [ps_]; rfl) ?_
       refine pure_ (i := 12) (N := some 32) #[true, true, true, true, true, false, true, true, true, true, false, true, true, false, false, false, false, false, false, false] rfl rfl (any_of HT_.out (by kernel_rfl)) (fun _ _ _ h => h) (Or.inl ⟨by rfl, fun w' => by go_simp; with_reducible rfl⟩) (by simp only [ps_]; rfl) ?_
       refine pure_ (i := 13) (N := some 33) #[true, true, true, true, true, false, true, true, true, true, false, true, true, true, false, false, false, false, false, false] rfl rfl (any_of HT_.out (by kernel_rfl)) (fun _ _ _ h => h) (Or.inl ⟨by rfl, fun w' => by go_simp; with_reducible rfl⟩) (by simp only [ps_]; rfl) ?_
       refine pure_ (i := 14) (N := some 34) #[true, true, true, true, true, false, true, true, true, true, false, true, true, true, true, false, false, false, false, false] rfl rfl (any_of HT_.out (by kernel_rfl)) (fun _ _ _ h => h) (Or.inl ⟨by rfl, fun w' => by go_simp; with_reducible rfl⟩) (by simp only [ps_]; rfl) ?_
       refine take_ (i := 5) (N := some 25) (v := ?_) (a' := ?_) #[true, true, true, true, true, true, true, true, true, true, false, true, true, true, true, false, false, false, false, false] rfl rfl (take_ofW HT_.out HW_.out (by kernel_rfl)) (fun _ _ _ h => h) (Or.inl ⟨by rfl, ?_⟩) hHeld ?_ ?_
       rotate_left
       ·rintro w' ⟨s0, s1, s2, s3, s4, s5, s6, s7, s8, s9, s10, s11⟩
        go_simp
        with_reducible rfl
       rotate_left
       ·simp only [ps_]
        rfl
       refine take_ (i := 10) (N := some 30) (v := ?_) (a' := ?_) #[true, true, true, true, true, true, true, true, true, true, true, true, true, true, true, false, false, false, false, false] rfl rfl (take_ofW HT_.out HW_.out (by kernel_rfl)) (fun _ _ _ h => h) (Or.inl ⟨by rfl, ?_⟩) hHeld ?_ ?_
       rotate_left
       ·rintro w' ⟨s0, s1, s2, s3, s4, s5, s6, s7, s8, s9, s10, s11⟩
        go_simp
        with_reducible rfl
       rotate_left
       ·simp only [ps_]
        rfl
       refine take_ (i := 15) (N := some 35) (v := ?_) (a' := ?_) #[true, true, true, true, true, true, true, true, true, true, true, true, true, true, true, true, false, false, false, false] rfl rfl (take_ofW HT_.out HW_.out (by kernel_rfl)) (fun _ _ _ h => h) (Or.inl ⟨by rfl, ?_⟩) hHeld ?_ ?_
       rotate_left
       ·rintro w' ⟨s0, s1, s2, s3, s4, s5, s6, s7, s8, s9, s10, s11⟩
        go_simp
        with_reducible rfl
       rotate_left
       ·simp only [ps_]
        rfl
       refine pure_ (i := 16) (N := some 36) #[true, true, true, true, true, true, true, true, true, true, true, true, true, true, true, true, true, false, false, false] rfl rfl (any_of HT_.out (by kernel_rfl)) (fun _ _ _ h => h) (Or.inl ⟨by rfl, fun w' => by go_simp; with_reducible rfl⟩) (by simp only [ps_]; rfl) ?_
       refine one_ (i := 17) (N := some 37) #[true, true, true, true, true, true, true, true, true, true, true, true, true, true, true, true, true, true, false, false] rfl rfl (one_of HT_.out (by kernel_rfl)) (by decide) (fun K hK => ?_)
       refine value_ (w1 := ?_) (v := ?_) (by rfl) rfl ?_ ?_
       rotate_left 2
       ·go_simp
        constructor
        ·rfl
        ·rfl
       refine hK.out _ _ ⟨(World.cell?_alloc_lt _ _ _ (bl_ _ _ (((HB.out.cell (bl_ w _ hw177_0)).trans hw177_0)))).trans (((HB.out.cell (bl_ w _ hw177_0)).trans hw177_0)), (World.cell?_alloc_lt _ _ _ (bl_ _ _ (((HB.out.cell (bl_ w _ hw177_1)).trans hw177_1)))).trans (((HB.out.cell (bl_ w _ hw177_1)).trans hw177_1)), (World.cell?_alloc_lt _ _ _ (bl_ _ _ (((HB.out.cell (bl_ w _ hw177_2)).trans hw177_2)))).trans (((HB.out.cell (bl_ w _ hw177_2)).trans hw177_2)), (World.cell?_alloc_lt _ _ _ (bl_ _ _ (((HB.out.cell (bl_ w _ hw177_3)).trans hw177_3)))).trans (((HB.out.cell (bl_ w _ hw177_3)).trans hw177_3)), (World.cell?_alloc_lt _ _ _ (bl_ _ _ (((HB.out.cell (bl_ w _ hw178_0)).trans hw178_0)))).trans (((HB.out.cell (bl_ w _ hw178_0)).trans hw178_0)), (World.cell?_alloc_lt _ _ _ (bl_ _ _ (((HB.out.cell (bl_ w _ hw178_1)).trans hw178_1)))).trans (((HB.out.cell (bl_ w _ hw178_1)).trans hw178_1)), (World.cell?_alloc_lt _ _ _ (bl_ _ _ (((HB.out.cell (bl_ w _ hw178_2)).trans hw178_2)))).trans (((HB.out.cell (bl_ w _ hw178_2)).trans hw178_2)), (World.cell?_alloc_lt _ _ _ (bl_ _ _ (((HB.out.cell (bl_ w _ hw178_3)).trans hw178_3)))).trans (((HB.out.cell (bl_ w _ hw178_3)).trans hw178_3)), (World.cell?_alloc_lt _ _ _ (bl_ _ _ (((HB.out.cell (bl_ w _ hw179_0)).trans hw179_0)))).trans (((HB.out.cell (bl_ w _ hw179_0)).trans hw179_0)), (World.cell?_alloc_lt _ _ _ (bl_ _ _ (((HB.out.cell (bl_ w _ hw179_1)).trans hw179_1)))).trans (((HB.out.cell (bl_ w _ hw179_1)).trans hw179_1)), (World.cell?_alloc_lt _ _ _ (bl_ _ _ (((HB.out.cell (bl_ w _ hw179_2)).trans hw179_2)))).trans (((HB.out.cell (bl_ w _ hw179_2)).trans hw179_2)), (World.cell?_alloc_lt _ _ _ (bl_ _ _ (((HB.out.cell (bl_ w _ hw179_3)).trans hw179_3)))).trans (((HB.out.cell (bl_ w _ hw179_3)).trans hw179_3))⟩ (fun hHeld => ?_)
       clear hK K
       refine norm_ (a' := ?_) ?_ ?_
       rotate_left
       ·show Act.put _ (some 37) _ = _
        simp only [ps_]
        rfl
       refine one_ (i := 18) (N := some 38) #[true, true, true, true, true, true, true, true, true, true, true, true, true, true, true, true, true, true, true, false] rfl rfl (one_of HT_.out (by kernel_rfl)) (by decide) (fun K hK => ?_)
       refine Kd.R_append_step k58 (w0 := w) w.heap.size (by rfl) (.tmp 20) (.tmp 37) 65 58 (.agg #[(.int .i64 0), (.int .i64 0), (.string ⟨#[]⟩)]) 32 rfl Try.underlying65 info58 rfl (by decide) (by omega) u5 x5_1 (⟨(rd_T34 l1 x6_1).f1, (rd_T34 l1 x6_1).f2, (rd_T34 l1 x6_1).f3⟩ : S58) [.int .i64 ((rd_T34 l1 x6_1).f1), .int .i64 ((rd_T34 l1 x6_1).f2), .string ((rd_T34 l1 x6_1).f3)] (fun _ => True) (fun _ => False) rfl rfl ?aP (fun _ hk => hk.elim) ?aF ?aO ?aB ?aS ?aL ?_
       (case aP => exact k58_mkM _ _ _ (⟨(rd_T34 l1 x6_1).f1, (rd_T34 l1 x6_1).f2, (rd_T34 l1 x6_1).f3⟩ : S58))
       (case aB => exact (by exact HB.out))
       (case aF => exact (fun _ _ => trivial))
       (case aO => exact (by exact HO_5.out))
       (case aS => exact (bZ_ (by exact HB.out)))
       (case aL => have := LMc6.out; omega)
       intro v181 w8 ho hb hg hat
       rw [← Ny180.out] at ho
       replace HB := a0_ (hb)
       have HO182 := a0_ (ho)
       clear HO_5
       clear ho hb hg hat
       refine hK.out _ _ ⟨((HB.out.cell (bl_ w _ hw177_0)).trans hw177_0), ((HB.out.cell (bl_ w _ hw177_1)).trans hw177_1), ((HB.out.cell (bl_ w _ hw177_2)).trans hw177_2), ((HB.out.cell (bl_ w _ hw177_3)).trans hw177_3), ((HB.out.cell (bl_ w _ hw178_0)).trans hw178_0), ((HB.out.cell (bl_ w _ hw178_1)).trans hw178_1), ((HB.out.cell (bl_ w _ hw178_2)).trans hw178_2), ((HB.out.cell (bl_ w _ hw178_3)).trans hw178_3), ((HB.out.cell (bl_ w _ hw179_0)).trans hw179_0), ((HB.out.cell (bl_ w _ hw179_1)).trans hw179_1), ((HB.out.cell (bl_ w _ hw179_2)).trans hw179_2), ((HB.out.cell (bl_ w _ hw179_3)).trans hw179_3)⟩ (fun hHeld => ?_)
       clear hK K
       refine norm_ (a' := ?_) ?_ ?_
       rotate_left
       ·show Act.put _ (some 38) _ = _
        simp only [ps_]
        rfl
       refine pure_ (i := 19) (N := some 5) #[true, true, true, true, true, true, true, true, true, true, true, true, true, true, true, true, true, true, true, true] rfl rfl (any_of HT_.out (by kernel_rfl)) (fun _ _ _ h => h) (Or.inl ⟨by rfl, fun w' => by go_simp; with_reducible rfl⟩) (by simp only [ps_]; rfl) ?_
       refine done_ (done_of HT_.out (by kernel_rfl)) ?_
       try go_wp2
       go_roundg k1
       case measure => have := HK1.out; omega
       case rel => exact ⟨(y180), (wrap64 (x6_1 + 1)), (by first | rfl | (simp; done) | (simp [*]; done)), H', ⟨by have := HK1.out; omega⟩, ⟨by exact HO182.out⟩, ⟨by exact HB.out⟩⟩
      ·rw [if_neg c6] at H
       exact absurd H (by simp)
     ·rw [if_neg c5] at H
      have c5b0 : (((rd_T34 l1 x6_1).f0) == a0) = false := beq_eq_false_iff_ne.mpr c5
      have c5b1 : (((rd_T34 l1 x6_1).f0) != a0) = true := bne_iff_ne.mpr c5
      have H' := a0_ H
      clear H
      have p176 : 0 ≤ (x6_1 : Int) := od_ (by first | (with_reducible assumption) | assumption)
      have q176 : x6_1 < (l1.length : Int) := od_ (by first | (with_reducible assumption) | assumption)
      obtain ⟨ad176, e176, hx176_0, hx176_1, hx176_2, hx176_3⟩ := at_T34 HR1.out x6_1 p176 q176
      cases e176
      replace hx176_0 := (HB.out.cell (bl_ w _ hx176_0)).trans hx176_0
      replace hx176_1 := (HB.out.cell (bl_ w _ hx176_1)).trans hx176_1
      replace hx176_2 := (HB.out.cell (bl_ w _ hx176_2)).trans hx176_2
      replace hx176_3 := (HB.out.cell (bl_ w _ hx176_3)).trans hx176_3
      replace p176 := eq_true p176
      replace q176 := eq_true q176
      go_wp2
      go_roundg k1
      case measure => have := HK1.out; omega
      case rel => exact ⟨(x5_1), (wrap64 (x6_1 + 1)), (by first | rfl | (simp; done) | (simp [*]; done)), H', ⟨by have := HK1.out; omega⟩, ⟨by exact HO_5.out⟩, ⟨by exact HB.out⟩⟩
    ·rw [if_neg c4] at H
     exact absurd H (by simp)
   ·rw [if_neg c3] at H
    have c3b0 : decide (x6_1 < (l1.length : Int)) = false := decide_eq_false c3
    clear c3
    obtain rfl := Option.some.inj H
    go_wp2
    go_ret
    exact ⟨_, by first | rfl | (simp [errW_none, errW_some] <;> rfl) | (simp [*, errW_none, errW_some] <;> rfl), by exact HO_5.out, by exact HB.out⟩
end Go.Proofs.Ytclcnglamlegiaa.PMD
