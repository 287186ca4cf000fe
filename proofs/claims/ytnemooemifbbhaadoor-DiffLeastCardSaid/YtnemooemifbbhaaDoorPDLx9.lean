-- Written by ownprint.py, a program of this session (out of the kit's print, with contracts of the session's own).
import Derived.Test.YtnemooemifbbhaaDoorPDLx0
import Derived.Test.YtnemooemifbbhaaDoorPDLx5
import Derived.Test.YtnemooemifbbhaaDoorPDLx7
import Derived.Test.YtnemooemifbbhaaDoorPDLx8
namespace Go.Proofs.YtnemooemifbbhaaDoor.PDL
open Go.RowKit Go.Proofs.YtnemooemifbbhaaDoorW.PrintWords Go.Proofs.YtnemooemifbbhaaDoorW.PrintLast Go.Proofs.YtnemooemifbbhaaDoorW.PrintMore
attribute [local go_sem] max2_int min2_int max_two min_two max_three min_three max_four min_four   -- for this text's walks alone
set_option linter.unusedVariables false
set_option linter.unusedSimpArgs false

/-! ### oriellaw27_DiffLeast: function 4 -/
mutual
def oriellaw27_DiffLeast.l0 : Nat → List ByteArray → List ByteArray → Int → List (List ByteArray) → Int → Int → Option (Bool)
  | 0, _, _, _, _, _, _ => none
  | k + 1, x0, x1, x5, x14, x15, x16 => if x16 < x15 then (if 0 ≤ x16 then (if x16 < (x14.length : Int) then (oriellaw27_DiffLeast.l1 k x0 x1 x5 (rd_L5 x14 x16) 0 x14 x15 x16) else (none)) else (none)) else (if (x0.length : Int) > 40 then (oriellaw27_DiffLeast.j2 k x0 x1 true) else (if (x1.length : Int) > 40 then (oriellaw27_DiffLeast.j2 k x0 x1 true) else (oriellaw27_DiffLeast.j2 k x0 x1 (decide (x5 > 1000)))))
def oriellaw27_DiffLeast.l1 : Nat → List ByteArray → List ByteArray → Int → List ByteArray → Int → List (List ByteArray) → Int → Int → Option (Bool)
  | 0, _, _, _, _, _, _, _, _ => none
  | k + 1, x0, x1, x5, x7, x8, x14, x15, x16 => if x8 < (x7.length : Int) then (if x8 ≤ 40 then (if 0 ≤ x8 then (oriellaw27_DiffLeast.l1 k x0 x1 (wrap64 (x5 + (mn ((rdOf ByteArray.empty x7 x8).size : Int) 5000))) x7 (wrap64 (x8 + 1)) x14 x15 x16) else (none)) else (oriellaw27_DiffLeast.l0 k x0 x1 x5 x14 x15 (wrap64 (x16 + 1)))) else (oriellaw27_DiffLeast.l0 k x0 x1 x5 x14 x15 (wrap64 (x16 + 1)))
def oriellaw27_DiffLeast.j2 : Nat → List ByteArray → List ByteArray → Bool → Option (Bool)
  | 0, _, _, _ => none
  | k + 1, x0, x1, x50 => if x50 = true then ((oriellaw27_alive.f k).bind fun t173 => (some t173)) else ((diff_Common.f x0 x1).bind fun t174 => (oriellaw27_DiffLeast.l2 k x0 x1 t174 t174 (t174.length : Int) 0))
def oriellaw27_DiffLeast.l2 : Nat → List ByteArray → List ByteArray → List (S36) → List (S36) → Int → Int → Option (Bool)
  | 0, _, _, _, _, _, _ => none
  | k + 1, x0, x1, x9, x55, x56, x57 => if x57 < x56 then (if 0 ≤ x57 then (if x57 < (x55.length : Int) then (if ((rd_T36 x55 x57).f0) < 0 then (none) else (if ((rd_T36 x55 x57).f1) < 0 then (none) else (if ((rd_T36 x55 x57).f0) ≥ (x0.length : Int) then (none) else (if ((rd_T36 x55 x57).f1) ≥ (x1.length : Int) then (none) else (if 0 ≤ ((rd_T36 x55 x57).f0) then (if ((rd_T36 x55 x57).f0) < (x0.length : Int) then (if 0 ≤ ((rd_T36 x55 x57).f1) then (if ((rd_T36 x55 x57).f1) < (x1.length : Int) then (if (rdOf ByteArray.empty x0 ((rd_T36 x55 x57).f0)).toList = (rdOf ByteArray.empty x1 ((rd_T36 x55 x57).f1)).toList then (if x57 > 0 then (if 0 ≤ (wrap64 (x57 - 1)) then (if (wrap64 (x57 - 1)) < (x9.length : Int) then (if ((rd_T36 x55 x57).f0) ≤ ((rd_T36 x9 (wrap64 (x57 - 1))).f0) then (none) else (oriellaw27_DiffLeast.j4 k x0 x1 x9 x55 x56 x57 (decide (((rd_T36 x55 x57).f1) ≤ ((rd_T36 x9 (wrap64 (x57 - 1))).f1))))) else (none)) else (none)) else (oriellaw27_DiffLeast.j4 k x0 x1 x9 x55 x56 x57 false)) else (none)) else (none)) else (none)) else (none)) else (none)))))) else (none)) else (none)) else ((orielref27_Rests.f k x0 x1).bind fun t183 => (if 0 < (t183.length : Int) then (if 0 < ((rd_L4 t183 0).length : Int) then (if (x9.length : Int) = (rd (rd_L4 t183 0) 0) then ((oriellaw27_alive.f k).bind fun t188 => (some t188)) else (none)) else (none)) else (none)))
def oriellaw27_DiffLeast.j4 : Nat → List ByteArray → List ByteArray → List (S36) → List (S36) → Int → Int → Bool → Option (Bool)
  | 0, _, _, _, _, _, _, _ => none
  | k + 1, x0, x1, x9, x55, x56, x57, x122 => if x122 = true then (none) else (oriellaw27_DiffLeast.l2 k x0 x1 x9 x55 x56 (wrap64 (x57 + 1)))
end
def oriellaw27_DiffLeast.f (k : Nat) (l0 : List ByteArray) (l1 : List ByteArray) (l2 : List (List ByteArray)) : Option (Bool) := oriellaw27_DiffLeast.l0 k l0 l1 0 l2 (l2.length : Int) 0
theorem oriellaw27_DiffLeast.mono_l : ∀ k, (∀ y0 y1 y2 y3 y4 y5, LeO (oriellaw27_DiffLeast.l0 k y0 y1 y2 y3 y4 y5) (oriellaw27_DiffLeast.l0 (k + 1) y0 y1 y2 y3 y4 y5)) ∧ (∀ y0 y1 y2 y3 y4 y5 y6 y7, LeO (oriellaw27_DiffLeast.l1 k y0 y1 y2 y3 y4 y5 y6 y7) (oriellaw27_DiffLeast.l1 (k + 1) y0 y1 y2 y3 y4 y5 y6 y7)) ∧ (∀ y0 y1 y2, LeO (oriellaw27_DiffLeast.j2 k y0 y1 y2) (oriellaw27_DiffLeast.j2 (k + 1) y0 y1 y2)) ∧ (∀ y0 y1 y2 y3 y4 y5, LeO (oriellaw27_DiffLeast.l2 k y0 y1 y2 y3 y4 y5) (oriellaw27_DiffLeast.l2 (k + 1) y0 y1 y2 y3 y4 y5)) ∧ (∀ y0 y1 y2 y3 y4 y5 y6, LeO (oriellaw27_DiffLeast.j4 k y0 y1 y2 y3 y4 y5 y6) (oriellaw27_DiffLeast.j4 (k + 1) y0 y1 y2 y3 y4 y5 y6))
  | 0 => ⟨fun _ _ _ _ _ _ r h => by simp [oriellaw27_DiffLeast.l0] at h, fun _ _ _ _ _ _ _ _ r h => by simp [oriellaw27_DiffLeast.l1] at h, fun _ _ _ r h => by simp [oriellaw27_DiffLeast.j2] at h, fun _ _ _ _ _ _ r h => by simp [oriellaw27_DiffLeast.l2] at h, fun _ _ _ _ _ _ _ r h => by simp [oriellaw27_DiffLeast.j4] at h⟩
  | k + 1 => by
    obtain ⟨ih0, ih1, ih2, ih3, ih4⟩ := oriellaw27_DiffLeast.mono_l k
    refine ⟨?_, ?_, ?_, ?_, ?_⟩
    · intro y0 y1 y2 y3 y4 y5
      unfold oriellaw27_DiffLeast.l0
      repeat' first
      | (with_reducible exact ih0 _ _ _ _ _ _)
      | (with_reducible exact ih1 _ _ _ _ _ _ _ _)
      | (with_reducible exact ih2 _ _ _)
      | (with_reducible exact ih3 _ _ _ _ _ _)
      | (with_reducible exact ih4 _ _ _ _ _ _ _)
      | (with_reducible exact oriellaw27_alive.mono _)
      | (with_reducible exact orielref27_Rests.mono _ _ _)
      | (with_reducible exact LeO.refl _)
      | (with_reducible exact LeO.none _)
      | (with_reducible refine LeO.ite ?_ ?_)
      | (with_reducible refine LeO.bind ?_ (fun _ => ?_))
      | exact ih0 _ _ _ _ _ _
      | exact ih1 _ _ _ _ _ _ _ _
      | exact ih2 _ _ _
      | exact ih3 _ _ _ _ _ _
      | exact ih4 _ _ _ _ _ _ _
      | exact oriellaw27_alive.mono _
      | exact orielref27_Rests.mono _ _ _
      | exact LeO.none _
      | refine LeO.ite ?_ ?_
      | refine LeO.bind ?_ (fun _ => ?_)
    · intro y0 y1 y2 y3 y4 y5 y6 y7
      unfold oriellaw27_DiffLeast.l1
      repeat' first
      | (with_reducible exact ih0 _ _ _ _ _ _)
      | (with_reducible exact ih1 _ _ _ _ _ _ _ _)
      | (with_reducible exact ih2 _ _ _)
      | (with_reducible exact ih3 _ _ _ _ _ _)
      | (with_reducible exact ih4 _ _ _ _ _ _ _)
      | (with_reducible exact oriellaw27_alive.mono _)
      | (with_reducible exact orielref27_Rests.mono _ _ _)
      | (with_reducible exact LeO.refl _)
      | (with_reducible exact LeO.none _)
      | (with_reducible refine LeO.ite ?_ ?_)
      | (with_reducible refine LeO.bind ?_ (fun _ => ?_))
      | exact ih0 _ _ _ _ _ _
      | exact ih1 _ _ _ _ _ _ _ _
      | exact ih2 _ _ _
      | exact ih3 _ _ _ _ _ _
      | exact ih4 _ _ _ _ _ _ _
      | exact oriellaw27_alive.mono _
      | exact orielref27_Rests.mono _ _ _
      | exact LeO.none _
      | refine LeO.ite ?_ ?_
      | refine LeO.bind ?_ (fun _ => ?_)
    · intro y0 y1 y2
      unfold oriellaw27_DiffLeast.j2
      repeat' first
      | (with_reducible exact ih0 _ _ _ _ _ _)
      | (with_reducible exact ih1 _ _ _ _ _ _ _ _)
      | (with_reducible exact ih2 _ _ _)
      | (with_reducible exact ih3 _ _ _ _ _ _)
      | (with_reducible exact ih4 _ _ _ _ _ _ _)
      | (with_reducible exact oriellaw27_alive.mono _)
      | (with_reducible exact orielref27_Rests.mono _ _ _)
      | (with_reducible exact LeO.refl _)
      | (with_reducible exact LeO.none _)
      | (with_reducible refine LeO.ite ?_ ?_)
      | (with_reducible refine LeO.bind ?_ (fun _ => ?_))
      | exact ih0 _ _ _ _ _ _
      | exact ih1 _ _ _ _ _ _ _ _
      | exact ih2 _ _ _
      | exact ih3 _ _ _ _ _ _
      | exact ih4 _ _ _ _ _ _ _
      | exact oriellaw27_alive.mono _
      | exact orielref27_Rests.mono _ _ _
      | exact LeO.none _
      | refine LeO.ite ?_ ?_
      | refine LeO.bind ?_ (fun _ => ?_)
    · intro y0 y1 y2 y3 y4 y5
      unfold oriellaw27_DiffLeast.l2
      repeat' first
      | (with_reducible exact ih0 _ _ _ _ _ _)
      | (with_reducible exact ih1 _ _ _ _ _ _ _ _)
      | (with_reducible exact ih2 _ _ _)
      | (with_reducible exact ih3 _ _ _ _ _ _)
      | (with_reducible exact ih4 _ _ _ _ _ _ _)
      | (with_reducible exact oriellaw27_alive.mono _)
      | (with_reducible exact orielref27_Rests.mono _ _ _)
      | (with_reducible exact LeO.refl _)
      | (with_reducible exact LeO.none _)
      | (with_reducible refine LeO.ite ?_ ?_)
      | (with_reducible refine LeO.bind ?_ (fun _ => ?_))
      | exact ih0 _ _ _ _ _ _
      | exact ih1 _ _ _ _ _ _ _ _
      | exact ih2 _ _ _
      | exact ih3 _ _ _ _ _ _
      | exact ih4 _ _ _ _ _ _ _
      | exact oriellaw27_alive.mono _
      | exact orielref27_Rests.mono _ _ _
      | exact LeO.none _
      | refine LeO.ite ?_ ?_
      | refine LeO.bind ?_ (fun _ => ?_)
    · intro y0 y1 y2 y3 y4 y5 y6
      unfold oriellaw27_DiffLeast.j4
      repeat' first
      | (with_reducible exact ih0 _ _ _ _ _ _)
      | (with_reducible exact ih1 _ _ _ _ _ _ _ _)
      | (with_reducible exact ih2 _ _ _)
      | (with_reducible exact ih3 _ _ _ _ _ _)
      | (with_reducible exact ih4 _ _ _ _ _ _ _)
      | (with_reducible exact oriellaw27_alive.mono _)
      | (with_reducible exact orielref27_Rests.mono _ _ _)
      | (with_reducible exact LeO.refl _)
      | (with_reducible exact LeO.none _)
      | (with_reducible refine LeO.ite ?_ ?_)
      | (with_reducible refine LeO.bind ?_ (fun _ => ?_))
      | exact ih0 _ _ _ _ _ _
      | exact ih1 _ _ _ _ _ _ _ _
      | exact ih2 _ _ _
      | exact ih3 _ _ _ _ _ _
      | exact ih4 _ _ _ _ _ _ _
      | exact oriellaw27_alive.mono _
      | exact orielref27_Rests.mono _ _ _
      | exact LeO.none _
      | refine LeO.ite ?_ ?_
      | refine LeO.bind ?_ (fun _ => ?_)
theorem oriellaw27_DiffLeast.mono : ∀ a0 a1 a2 k, LeO (oriellaw27_DiffLeast.f k a0 a1 a2) (oriellaw27_DiffLeast.f (k + 1) a0 a1 a2) := by
  intro a0 a1 a2 k
  obtain ⟨ih0, ih1, ih2, ih3, ih4⟩ := oriellaw27_DiffLeast.mono_l k
  unfold oriellaw27_DiffLeast.f
  repeat' first
      | (with_reducible exact ih0 _ _ _ _ _ _)
      | (with_reducible exact ih1 _ _ _ _ _ _ _ _)
      | (with_reducible exact ih2 _ _ _)
      | (with_reducible exact ih3 _ _ _ _ _ _)
      | (with_reducible exact ih4 _ _ _ _ _ _ _)
      | (with_reducible exact oriellaw27_alive.mono _)
      | (with_reducible exact orielref27_Rests.mono _ _ _)
      | (with_reducible exact LeO.refl _)
      | (with_reducible exact LeO.none _)
      | (with_reducible refine LeO.ite ?_ ?_)
      | (with_reducible refine LeO.bind ?_ (fun _ => ?_))
      | exact ih0 _ _ _ _ _ _
      | exact ih1 _ _ _ _ _ _ _ _
      | exact ih2 _ _ _
      | exact ih3 _ _ _ _ _ _
      | exact ih4 _ _ _ _ _ _ _
      | exact oriellaw27_alive.mono _
      | exact orielref27_Rests.mono _ _ _
      | exact LeO.none _
      | refine LeO.ite ?_ ?_
      | refine LeO.bind ?_ (fun _ => ?_)
set_option maxHeartbeats 8000000 in
set_option maxRecDepth 100000 in
theorem two_C {w : World} {g : Nat} {A0 A1 : Option Addr} {c0 c1 : Nat} {l0 l1 : List ByteArray} {l2 : List (List ByteArray)} (hG : w.heap[g]? = some (.cells #[.slice A0 l0.length c0, .slice A1 l1.length c1] 24 (0, 0))) (hl : l2 = [l0, l1]) (h0 : Kd.C Kd.string w A0 l0.length l0) (hc0 : l0.length ≤ c0) (h1 : Kd.C Kd.string w A1 l1.length l1) (hc1 : l1.length ≤ c1) : Kd.C (Kd.slice 9 Kd.string) w (some ⟨g, 0, none⟩) l2.length l2 := by
  subst hl
  refine ⟨rfl, by show 2 ≤ 9223372036854775807; decide, fun _ => ⟨⟨g, 0, none⟩, rfl, fun j p hj => ?_⟩⟩
  match j, hj with
  | 0, hj =>
    obtain rfl := Option.some.inj hj
    refine ⟨[.slice A0 l0.length c0], rfl, ⟨A0, c0, rfl, hc0, h0⟩, fun i u hu => ?_⟩
    match i, hu with
    | 0, hu =>
      obtain rfl := Option.some.inj hu
      exact (blk_cell hG 0).trans rfl
  | 1, hj =>
    obtain rfl := Option.some.inj hj
    refine ⟨[.slice A1 l1.length c1], rfl, ⟨A1, c1, rfl, hc1, h1⟩, fun i u hu => ?_⟩
    match i, hu with
    | 0, hu =>
      obtain rfl := Option.some.inj hu
      exact (blk_cell hG 1).trans rfl
set_option maxHeartbeats 8000000 in
set_option maxRecDepth 100000 in
theorem oriellaw27_DiffLeast.calls (k : Nat) (A0 : Option Addr) (c0 : Nat) (l0 : List ByteArray) (A1 : Option Addr) (c1 : Nat) (l1 : List ByteArray) (r : Bool) (u : World) (hr0 : Kd.C Kd.string u A0 l0.length l0) (hc0 : l0.length ≤ c0) (hr1 : Kd.C Kd.string u A1 l1.length l1) (hc1 : l1.length ≤ c1) (h : oriellaw27_DiffLeast.f k l0 l1 [l0, l1] = some r) :
    Calls Tryd.prog 4 #[.slice A0 l0.length c0, .slice A1 l1.length c1] u fun e w' => e = .returned (.bool r) ∧ Below u.heap.size u w' := by
  have hu36 := Tryd.underlying36
  have HR0 := Aside0.mk hr0
  have HC0 := Aside0.mk hc0
  clear hr0 hc0
  have HR1 := Aside0.mk hr1
  have HC1 := Aside0.mk hc1
  clear hr1 hc1
  obtain ⟨l2, hl2⟩ : ∃ l_ : List (List ByteArray), l_ = [l0, l1] := ⟨_, rfl⟩
  rw [← hl2] at h
  have el2 := Aside0.mk (show l2.length = 2 from by rw [hl2]; rfl)
  have HL2 := Aside0.mk hl2
  clear hl2
  have H : (oriellaw27_DiffLeast.l0 k l0 l1 0 l2 (l2.length : Int) 0) = some r := h
  clear h
  have H' := Aside0.mk H
  clear H
  go_enter Tryd.func4, Tryd.ntmps4
  -- REST OF IT: behind the list of the two lists
  go_wp2_with (first | ((with_reducible refine gate_dst (N := 14) rfl ?_); refine Kd.event_run (w1 := u.alloc (.cells #[.slice A0 l0.length c0, .slice A1 l1.length c1] 24)) (v := .slice (some ⟨u.heap.size, 0, none⟩) l2.length 2) ?hg ?hr ?_; (case hg => rfl); (case hr => rw [el2.out]; first | (go_simp; done) | (go_simp; rfl)); have U0 := Aside0.mk (below_alloc (Below.refl u.heap.size u) (.cells #[.slice A0 l0.length c0, .slice A1 l1.length c1] 24)); have HRa := Aside0.mk (Kd.C_alloc HR0.out (.cells #[.slice A0 l0.length c0, .slice A1 l1.length c1] 24)); have HRb := Aside0.mk (Kd.C_alloc HR1.out (.cells #[.slice A0 l0.length c0, .slice A1 l1.length c1] 24)); have G0 := Aside0.mk (blk_new u (.cells #[.slice A0 l0.length c0, .slice A1 l1.length c1] 24)); clear HR0 HR1; have HR0 := HRa; have HR1 := HRb; clear HRa HRb; generalize hg_ : u.heap.size = g2_ at G0 ⊢; have U1 : Aside0 (Below u.heap.size u (u.alloc (.cells #[.slice A0 l0.length c0, .slice A1 l1.length c1] 24))) := ⟨U0.out⟩; clear U0 hg_; generalize hw_ : u.alloc (.cells #[.slice A0 l0.length c0, .slice A1 l1.length c1] 24) = w at HR0 HR1 G0 U1 ⊢; clear hw_; have HR2 : Aside0 (Kd.C (Kd.slice 9 Kd.string) w (some ⟨g2_, 0, none⟩) l2.length l2) := ⟨two_C G0.out HL2.out HR0.out HC0.out HR1.out HC1.out⟩; have HB := Aside0.mk (Below.refl w.heap.size w); clear G0; generalize hA_ : (some (⟨g2_, 0, none⟩ : Addr) : Option Addr) = A2_ at HR2 ⊢; clear hA_ HL2 el2))
  repeat (go_quiet (fail); try go_wp2)
  go_loopg [5, 16] k (fun kq v5 v16 w' => ∃ (x5_1 : Int) (x16_1 : Int), v5 = .int .i64 x5_1 ∧ v16 = .int .i64 x16_1 ∧ Aside0 (oriellaw27_DiffLeast.l0 kq l0 l1 x5_1 l2 (l2.length : Int) x16_1 = some r) ∧ Aside0 (kq ≤ k) ∧ Aside0 (Below w.heap.size w w'))
  case atStart => exact ⟨(0), (0), (by first | rfl | (simp; done) | (simp [*]; done)), (by first | rfl | (simp; done) | (simp [*]; done)), H', ⟨Nat.le_refl _⟩, ⟨by repeat (first | (with_reducible first | exact HB.out | apply below_alloc | apply pw_below_drewN | apply below_drew1) | exact HB.out)⟩⟩
  case round =>
    clear H'
    try clear c1
    try clear c2
    try clear p2
    obtain ⟨x5_1, x16_1, rfl, rfl, HA, HK1, HB⟩ := hrel
    cases gk with
    | zero => exact absurd HA.out (by simp [oriellaw27_DiffLeast.l0])
    | succ k1 =>
      have H := HA.out
      clear HA
      simp only [oriellaw27_DiffLeast.l0] at H
      by_cases c4 : x16_1 < (l2.length : Int)
      · rw [if_pos c4] at H
        have c4b0 : decide (x16_1 < (l2.length : Int)) = true := decide_eq_true c4
        clear c4
        by_cases c5 : 0 ≤ x16_1
        · rw [if_pos c5] at H
          have c5b0 : decide (0 ≤ x16_1) = true := decide_eq_true c5
          clear c5
          by_cases c6 : x16_1 < (l2.length : Int)
          · rw [if_pos c6] at H
            have c6b0 : decide (x16_1 < (l2.length : Int)) = true := decide_eq_true c6
            clear c6
            have H' := Aside0.mk H
            clear H
            have p171 : 0 ≤ (x16_1 : Int) := of_decide_eq_true (by first | (with_reducible assumption) | assumption)
            have q171 : x16_1 < (l2.length : Int) := of_decide_eq_true (by first | (with_reducible assumption) | assumption)
            obtain ⟨ad171, A171_0, c171_0, e171, hx171_0, hl171_0, hi171_0⟩ := at_L5 HR2.out x16_1 p171 q171
            cases e171
            replace hx171_0 := (HB.out.cell (World.block_lt_of_cell? w _ hx171_0)).trans hx171_0
            have HR171_0 := Aside0.mk hi171_0
            have HC171_0 := Aside0.mk hl171_0
            clear hi171_0 hl171_0
            replace p171 := eq_true p171
            replace q171 := eq_true q171
            go_wp2
            repeat (go_quiet (fail); try go_wp2)
            go_loopg [5, 8] k1 (fun kq v5 v8 w' => ∃ (x5_2 : Int) (x8_2 : Int), v5 = .int .i64 x5_2 ∧ v8 = .int .i64 x8_2 ∧ Aside0 (oriellaw27_DiffLeast.l1 kq l0 l1 x5_2 (rd_L5 l2 x16_1) x8_2 l2 (l2.length : Int) x16_1 = some r) ∧ Aside0 (kq ≤ k1) ∧ Aside0 (Below w.heap.size w w'))
            case atStart => exact ⟨(x5_1), (0), (by first | rfl | (simp; done) | (simp [*]; done)), (by first | rfl | (simp; done) | (simp [*]; done)), H', ⟨Nat.le_refl _⟩, ⟨by repeat (first | (with_reducible first | exact HB.out | apply below_alloc | apply pw_below_drewN | apply below_drew1) | exact HB.out)⟩⟩
            case round =>
              clear H'
              try clear c1
              try clear p1
              try clear q1
              try clear hx1
              try clear c2
              try clear p2
              try clear c4
              try clear c4b0
              try clear c5
              try clear c5b0
              try clear c6
              try clear c6b0
              try clear hx171_0
              try clear p171
              try clear p2
              try clear q171
              obtain ⟨x5_2, x8_2, rfl, rfl, HA, HK2, HB⟩ := hrel
              cases gk with
              | zero => exact absurd HA.out (by simp [oriellaw27_DiffLeast.l1])
              | succ k2 =>
                have H := HA.out
                clear HA
                simp only [oriellaw27_DiffLeast.l1] at H
                by_cases c7 : x8_2 < ((rd_L5 l2 x16_1).length : Int)
                · rw [if_pos c7] at H
                  have c7b0 : decide (x8_2 < ((rd_L5 l2 x16_1).length : Int)) = true := decide_eq_true c7
                  clear c7
                  by_cases c8 : x8_2 ≤ 40
                  · rw [if_pos c8] at H
                    have c8b0 : decide (x8_2 ≤ 40) = true := decide_eq_true c8
                    clear c8
                    by_cases c9 : 0 ≤ x8_2
                    · rw [if_pos c9] at H
                      have c9b0 : decide (0 ≤ x8_2) = true := decide_eq_true c9
                      clear c9
                      obtain ⟨ji10, hji10⟩ : ∃ j_ : Int, (mn ((rdOf ByteArray.empty (rd_L5 l2 x16_1) x8_2).size : Int) 5000) = j_ := ⟨_, rfl⟩
                      replace H : (oriellaw27_DiffLeast.l1 k2 l0 l1 (wrap64 (x5_2 + (ji10))) (rd_L5 l2 x16_1) (wrap64 (x8_2 + 1)) l2 (l2.length : Int) x16_1) = some r := by first | (rw [hji10] at H; exact H) | (simp only [hji10] at H ⊢; exact H)
                      have hji10_ : (if 5000 < ((rdOf ByteArray.empty (rd_L5 l2 x16_1) x8_2).size : Int) then 5000 else ((rdOf ByteArray.empty (rd_L5 l2 x16_1) x8_2).size : Int)) = ji10 := hji10
                      have H' := Aside0.mk H
                      clear H
                      have p172 : 0 ≤ (x8_2 : Int) := of_decide_eq_true (by first | (with_reducible assumption) | assumption)
                      have q172 : x8_2 < ((rd_L5 l2 x16_1).length : Int) := of_decide_eq_true (by first | (with_reducible assumption) | assumption)
                      obtain ⟨ad172, e172, hx172_0⟩ := Kd.at_string HR171_0.out x8_2 p172 q172
                      cases e172
                      replace hx172_0 := (HB.out.cell (World.block_lt_of_cell? w _ hx172_0)).trans hx172_0
                      replace p172 := eq_true p172
                      replace q172 := eq_true q172
                      go_wp2
                      repeat (go_quiet (fail); try go_wp2)
                      go_roundg k2
                      case measure => have := HK1.out; have := HK2.out; omega
                      case rel => exact ⟨(wrap64 (x5_2 + (ji10))), (wrap64 (x8_2 + 1)), (by first | rfl | (simp; done) | (simp only [← hji10] <;> (first | rfl | simp)) | (simp [*]; done)), (by first | rfl | (simp; done) | (simp [*]; done)), H', ⟨by have := HK1.out; have := HK2.out; omega⟩, ⟨by repeat (first | (with_reducible first | exact HB.out | apply below_alloc | apply pw_below_drewN | apply below_drew1) | exact HB.out)⟩⟩
                    · rw [if_neg c9] at H
                      exact absurd H (by simp)
                  · rw [if_neg c8] at H
                    have c8b0 : decide (x8_2 ≤ 40) = false := decide_eq_false c8
                    clear c8
                    have H' := Aside0.mk H
                    clear H
                    go_wp2
                    repeat (go_quiet (fail); try go_wp2)
                    go_roundg k2
                    case measure => have := HK1.out; have := HK2.out; omega
                    case rel => exact ⟨(x5_2), (wrap64 (x16_1 + 1)), (by first | rfl | (simp; done) | (simp [*]; done)), (by first | rfl | (simp; done) | (simp [*]; done)), H', ⟨by have := HK1.out; have := HK2.out; omega⟩, ⟨by repeat (first | (with_reducible first | exact HB.out | apply below_alloc | apply pw_below_drewN | apply below_drew1) | exact HB.out)⟩⟩
                · rw [if_neg c7] at H
                  have c7b0 : decide (x8_2 < ((rd_L5 l2 x16_1).length : Int)) = false := decide_eq_false c7
                  clear c7
                  have H' := Aside0.mk H
                  clear H
                  go_wp2
                  repeat (go_quiet (fail); try go_wp2)
                  go_roundg k2
                  case measure => have := HK1.out; have := HK2.out; omega
                  case rel => exact ⟨(x5_2), (wrap64 (x16_1 + 1)), (by first | rfl | (simp; done) | (simp [*]; done)), (by first | rfl | (simp; done) | (simp [*]; done)), H', ⟨by have := HK1.out; have := HK2.out; omega⟩, ⟨by repeat (first | (with_reducible first | exact HB.out | apply below_alloc | apply pw_below_drewN | apply below_drew1) | exact HB.out)⟩⟩
          · rw [if_neg c6] at H
            exact absurd H (by simp)
        · rw [if_neg c5] at H
          exact absurd H (by simp)
      · rw [if_neg c4] at H
        have c4b0 : decide (x16_1 < (l2.length : Int)) = false := decide_eq_false c4
        clear c4
        have HC11 := Aside0.mk H
        clear H
        go_upto_region 10 with (fail)
        repeat (go_quiet (fail); go_upto_region 10 with (fail))
        go_cut [50] (fun v50 wc => ∃ (kq : Nat) (x50_10 : Bool), v50 = .bool x50_10 ∧ Aside0 (oriellaw27_DiffLeast.j2 kq l0 l1 x50_10 = some r) ∧ Aside0 (kq ≤ k1) ∧ Aside0 (Below w.heap.size w wc))
        case first =>
          have H := HC11.out
          clear HC11
          by_cases c12 : (l0.length : Int) > 40
          · rw [if_pos c12] at H
            have c12b0 : decide (40 < (l0.length : Int)) = true := decide_eq_true c12
            have c12b1 : decide (40 < l0.length) = true := decide_eq_true (by omega)
            clear c12
            (first | rw [c12b0] | (simp only [i64_w, i32_w]; rw [c12b0]) | skip)
            have H' := Aside0.mk H
            clear H
            go_wp2
            repeat (go_quiet (fail); try go_wp2)
            go_meet
            case rel => exact ⟨_, (true), (by first | rfl | (simp; done) | (simp [*]; done)), H', ⟨by have := HK1.out; first | omega | exact Nat.le_refl _⟩, ⟨by repeat (first | (with_reducible first | exact HB.out | apply below_alloc | apply pw_below_drewN | apply below_drew1) | exact HB.out)⟩⟩
          · rw [if_neg c12] at H
            have c12b0 : decide (40 < (l0.length : Int)) = false := decide_eq_false c12
            have c12b1 : decide (40 < l0.length) = false := decide_eq_false (by omega)
            clear c12
            (first | rw [c12b0] | (simp only [i64_w, i32_w]; rw [c12b0]) | skip)
            by_cases c13 : (l1.length : Int) > 40
            · rw [if_pos c13] at H
              have c13b0 : decide (40 < (l1.length : Int)) = true := decide_eq_true c13
              have c13b1 : decide (40 < l1.length) = true := decide_eq_true (by omega)
              clear c13
              have H' := Aside0.mk H
              clear H
              go_wp2
              repeat (go_quiet (fail); try go_wp2)
              go_meet
              case rel => exact ⟨_, (true), (by first | rfl | (simp; done) | (simp [*]; done)), H', ⟨by have := HK1.out; first | omega | exact Nat.le_refl _⟩, ⟨by repeat (first | (with_reducible first | exact HB.out | apply below_alloc | apply pw_below_drewN | apply below_drew1) | exact HB.out)⟩⟩
            · rw [if_neg c13] at H
              have c13b0 : decide (40 < (l1.length : Int)) = false := decide_eq_false c13
              have c13b1 : decide (40 < l1.length) = false := decide_eq_false (by omega)
              clear c13
              have H' := Aside0.mk H
              clear H
              go_wp2
              repeat (go_quiet (fail); try go_wp2)
              go_meet
              case rel => exact ⟨_, (decide (x5_1 > 1000)), (by first | rfl | (simp; done) | (simp [*]; done)), H', ⟨by have := HK1.out; first | omega | exact Nat.le_refl _⟩, ⟨by repeat (first | (with_reducible first | exact HB.out | apply below_alloc | apply pw_below_drewN | apply below_drew1) | exact HB.out)⟩⟩
        case rest =>
          clear HC11
          try clear c1
          try clear p1
          try clear q1
          try clear hx1
          try clear c2
          try clear p2
          try clear c4
          try clear c4b0
          try clear c5
          try clear c5b0
          try clear c6
          try clear c6b0
          try clear p6
          try clear c7
          try clear c7b0
          try clear c8
          try clear c8b0
          try clear c9
          try clear c9b0
          try clear c12
          try clear c12b0
          try clear c12b1
          try clear c13
          try clear c13b0
          try clear c13b1
          try clear hx171_0
          try clear hx172_0
          try clear p1
          try clear p171
          try clear p172
          try clear p2
          try clear q1
          try clear q171
          try clear q172
          obtain ⟨kq, x50_10, rfl, HA, HJ10, HB⟩ := hcut
          cases kq with
          | zero => exact absurd HA.out (by simp [oriellaw27_DiffLeast.j2])
          | succ kj10 =>
            have H := HA.out
            clear HA
            simp only [oriellaw27_DiffLeast.j2] at H
            by_cases c14 : x50_10 = true
            · subst c14
              have H1 : ((oriellaw27_alive.f kj10).bind fun t173 => (some t173)) = some r := by rw [if_pos rfl] at H; exact H
              clear H
              have H := H1
              clear H1
              replace H := Option.bind_eq_some_iff.mp H
              obtain ⟨t173, A150, H⟩ := H
              replace H : (some t173) = some r := H
              have A15 := Aside0.mk A150
              clear A150
              obtain rfl := Option.some.inj H
              go_wp2_with (first | (go_at_call 9; (with_reducible refine (oriellaw27_alive.calls kj10  t173 _ A15.out).mono ?_); rintro e w16 ⟨rfl, hb⟩; have n0_ := Aside0.mk (below_step (by repeat (first | (with_reducible first | exact HB.out | apply below_alloc | apply pw_below_drewN | apply below_drew1) | exact HB.out)) hb); clear HB; have HB := n0_; clear n0_; (try clear hb); (try clear hb2); (try clear hk); (try clear hi)))
              repeat (go_quiet (first | (go_at_call 9; (with_reducible refine (oriellaw27_alive.calls kj10  t173 _ A15.out).mono ?_); rintro e w16 ⟨rfl, hb⟩; have n0_ := Aside0.mk (below_step (by repeat (first | (with_reducible first | exact HB.out | apply below_alloc | apply pw_below_drewN | apply below_drew1) | exact HB.out)) hb); clear HB; have HB := n0_; clear n0_; (try clear hb); (try clear hb2); (try clear hk); (try clear hi))); try go_wp2_with (first | (go_at_call 9; (with_reducible refine (oriellaw27_alive.calls kj10  t173 _ A15.out).mono ?_); rintro e w16 ⟨rfl, hb⟩; have n0_ := Aside0.mk (below_step (by repeat (first | (with_reducible first | exact HB.out | apply below_alloc | apply pw_below_drewN | apply below_drew1) | exact HB.out)) hb); clear HB; have HB := n0_; clear n0_; (try clear hb); (try clear hb2); (try clear hk); (try clear hi))))
              go_ret
              exact ⟨by first | rfl | (simp [errW_none, errW_some] <;> rfl) | (simp [*, errW_none, errW_some] <;> rfl), below_step U1.out (by repeat (first | (with_reducible first | exact HB.out | apply below_alloc | apply pw_below_drewN | apply below_drew1) | exact HB.out))⟩
            · replace c14 := Bool.eq_false_iff.mpr c14
              subst c14
              have H1 : ((diff_Common.f l0 l1).bind fun t174 => (oriellaw27_DiffLeast.l2 kj10 l0 l1 t174 t174 (t174.length : Int) 0)) = some r := by rw [if_neg (show ¬ (false = true) by decide)] at H; exact H
              clear H
              have H := H1
              clear H1
              replace H := Option.bind_eq_some_iff.mp H
              obtain ⟨t174, A170, H⟩ := H
              replace H : (oriellaw27_DiffLeast.l2 kj10 l0 l1 t174 t174 (t174.length : Int) 0) = some r := H
              have A17 := Aside0.mk A170
              clear A170
              have H' := Aside0.mk H
              clear H
              go_wp2_with (first | (go_at_call 14; (with_reducible refine (diff_Common.calls _ _ l0 _ _ l1 t174 _ ?side1 ?side2 ?side3 ?side4 A17.out).mono ?_); (case side1 => repeat (first | exact (Kd.C_below HR0.out HB.out) | (with_reducible refine Kd.C_alloc ?_ _) | (with_reducible refine Kd.C_drewN ?_ _) | (with_reducible refine Kd.C_drew ?_))); (case side2 => exact HC0.out); (case side3 => repeat (first | exact (Kd.C_below HR1.out HB.out) | (with_reducible refine Kd.C_alloc ?_ _) | (with_reducible refine Kd.C_drewN ?_ _) | (with_reducible refine Kd.C_drew ?_))); (case side4 => exact HC1.out); rintro e w18 ⟨v175, rfl, ho0, hb⟩; have n0_ := Aside0.mk (Kd.R_lower ho0 (below_size (by repeat (first | (with_reducible first | exact HB.out | apply below_alloc | apply pw_below_drewN | apply below_drew1) | exact HB.out)))); have n1_ := Aside0.mk (below_step (by repeat (first | (with_reducible first | exact HB.out | apply below_alloc | apply pw_below_drewN | apply below_drew1) | exact HB.out)) hb); clear HB; have HO176 := n0_; have HB := n1_; clear n0_ n1_; (try clear hb); (try clear hb2); (try clear hk); (try clear hi); (try clear ho0); obtain ⟨Ao19, co19, eo19⟩ := Kd.R_slice HO176.out; subst eo19))
              repeat (go_quiet (first | (go_at_call 14; (with_reducible refine (diff_Common.calls _ _ l0 _ _ l1 t174 _ ?side1 ?side2 ?side3 ?side4 A17.out).mono ?_); (case side1 => repeat (first | exact (Kd.C_below HR0.out HB.out) | (with_reducible refine Kd.C_alloc ?_ _) | (with_reducible refine Kd.C_drewN ?_ _) | (with_reducible refine Kd.C_drew ?_))); (case side2 => exact HC0.out); (case side3 => repeat (first | exact (Kd.C_below HR1.out HB.out) | (with_reducible refine Kd.C_alloc ?_ _) | (with_reducible refine Kd.C_drewN ?_ _) | (with_reducible refine Kd.C_drew ?_))); (case side4 => exact HC1.out); rintro e w18 ⟨v175, rfl, ho0, hb⟩; have n0_ := Aside0.mk (Kd.R_lower ho0 (below_size (by repeat (first | (with_reducible first | exact HB.out | apply below_alloc | apply pw_below_drewN | apply below_drew1) | exact HB.out)))); have n1_ := Aside0.mk (below_step (by repeat (first | (with_reducible first | exact HB.out | apply below_alloc | apply pw_below_drewN | apply below_drew1) | exact HB.out)) hb); clear HB; have HO176 := n0_; have HB := n1_; clear n0_ n1_; (try clear hb); (try clear hb2); (try clear hk); (try clear hi); (try clear ho0); obtain ⟨Ao19, co19, eo19⟩ := Kd.R_slice HO176.out; subst eo19)); try go_wp2_with (first | (go_at_call 14; (with_reducible refine (diff_Common.calls _ _ l0 _ _ l1 t174 _ ?side1 ?side2 ?side3 ?side4 A17.out).mono ?_); (case side1 => repeat (first | exact (Kd.C_below HR0.out HB.out) | (with_reducible refine Kd.C_alloc ?_ _) | (with_reducible refine Kd.C_drewN ?_ _) | (with_reducible refine Kd.C_drew ?_))); (case side2 => exact HC0.out); (case side3 => repeat (first | exact (Kd.C_below HR1.out HB.out) | (with_reducible refine Kd.C_alloc ?_ _) | (with_reducible refine Kd.C_drewN ?_ _) | (with_reducible refine Kd.C_drew ?_))); (case side4 => exact HC1.out); rintro e w18 ⟨v175, rfl, ho0, hb⟩; have n0_ := Aside0.mk (Kd.R_lower ho0 (below_size (by repeat (first | (with_reducible first | exact HB.out | apply below_alloc | apply pw_below_drewN | apply below_drew1) | exact HB.out)))); have n1_ := Aside0.mk (below_step (by repeat (first | (with_reducible first | exact HB.out | apply below_alloc | apply pw_below_drewN | apply below_drew1) | exact HB.out)) hb); clear HB; have HO176 := n0_; have HB := n1_; clear n0_ n1_; (try clear hb); (try clear hb2); (try clear hk); (try clear hi); (try clear ho0); obtain ⟨Ao19, co19, eo19⟩ := Kd.R_slice HO176.out; subst eo19)))
              go_loopg [57] kj10 (fun kq v57 w' => ∃ (x57_3 : Int), v57 = .int .i64 x57_3 ∧ Aside0 (oriellaw27_DiffLeast.l2 kq l0 l1 t174 t174 (t174.length : Int) x57_3 = some r) ∧ Aside0 (kq ≤ kj10) ∧ Aside0 (Kd.R k36 36 w' w.heap.size (fun _ => True) (.slice Ao19 t174.length co19) t174) ∧ Aside0 (Kd.R k36 36 w' w.heap.size (fun _ => True) (.slice Ao19 t174.length co19) t174) ∧ Aside0 (Below w.heap.size w w'))
              case atStart => exact ⟨(0), (by first | rfl | (simp; done) | (simp [*]; done)), H', ⟨Nat.le_refl _⟩, ⟨by (with_reducible repeat (first | apply Kd.R_alloc | apply Kd.R_drewN | apply Kd.R_drew)); exact HO176.out⟩, ⟨by (with_reducible repeat (first | apply Kd.R_alloc | apply Kd.R_drewN | apply Kd.R_drew)); exact HO176.out⟩, ⟨by repeat (first | (with_reducible first | exact HB.out | apply below_alloc | apply pw_below_drewN | apply below_drew1) | exact HB.out)⟩⟩
              case round =>
                clear H'
                try clear c1
                try clear p1
                try clear q1
                try clear hx1
                try clear c2
                try clear p2
                try clear c4
                try clear c4b0
                try clear c5
                try clear c5b0
                try clear c6
                try clear c6b0
                try clear p6
                try clear c7
                try clear c7b0
                try clear c8
                try clear c8b0
                try clear c9
                try clear c9b0
                try clear c12
                try clear c12b0
                try clear c12b1
                try clear c13
                try clear c13b0
                try clear c13b1
                try clear c14
                try clear c17
                try clear p17
                try clear q17
                try clear hx17
                try clear hx171_0
                try clear hx172_0
                try clear p1
                try clear p171
                try clear p172
                try clear p2
                try clear p6
                try clear q1
                try clear q171
                try clear q172
                obtain ⟨x57_3, rfl, HA, HK3, HO_9, HO_55, HB⟩ := hrel
                cases gk with
                | zero => exact absurd HA.out (by simp [oriellaw27_DiffLeast.l2])
                | succ k3 =>
                  have H := HA.out
                  clear HA
                  simp only [oriellaw27_DiffLeast.l2] at H
                  by_cases c20 : x57_3 < (t174.length : Int)
                  · rw [if_pos c20] at H
                    have c20b0 : decide (x57_3 < (t174.length : Int)) = true := decide_eq_true c20
                    clear c20
                    by_cases c21 : 0 ≤ x57_3
                    · rw [if_pos c21] at H
                      have c21b0 : decide (0 ≤ x57_3) = true := decide_eq_true c21
                      clear c21
                      by_cases c22 : x57_3 < (t174.length : Int)
                      · rw [if_pos c22] at H
                        have c22b0 : decide (x57_3 < (t174.length : Int)) = true := decide_eq_true c22
                        clear c22
                        have HC23 := Aside0.mk H
                        clear H
                        have p177 : 0 ≤ (x57_3 : Int) := of_decide_eq_true (by first | (with_reducible assumption) | assumption)
                        have q177 : x57_3 < (t174.length : Int) := of_decide_eq_true (by first | (with_reducible assumption) | assumption)
                        obtain ⟨ad177, e177, hx177_0, hx177_1⟩ := at_T36 (Kd.R_reads' HO_55.out).2.2 x57_3 p177 q177
                        cases e177
                        replace p177 := eq_true p177
                        replace q177 := eq_true q177
                        go_upto_region 16 with (first | ((with_reducible refine gate_dst (N := 11) rfl ?_); (try (refine gate_guard (by rfl) ?_; dsimp only)); refine box_event ?hg (N := 11) ?hd (cs := #[.int .i64 0, .int .i64 0]) (t := 36) ?hr ?_; (case hd => rfl); (case hg => rfl); (case hr => first | (go_simp; done) | (go_simp; rfl)); intro gb178 hg w24 hbox hb; have n0_ := Aside0.mk (Kd.R_below (Kd.R_elderB (by (with_reducible repeat (first | apply Kd.R_alloc | apply Kd.R_drewN | apply Kd.R_drew)); exact HO_9.out) gb178 (Nat.le_of_eq hg.symm)) hb); have n1_ := Aside0.mk (Kd.R_below (Kd.R_elderB (by (with_reducible repeat (first | apply Kd.R_alloc | apply Kd.R_drewN | apply Kd.R_drew)); exact HO_55.out) gb178 (Nat.le_of_eq hg.symm)) hb); have n2_ := Aside0.mk (below_step (by repeat (first | (with_reducible first | exact HB.out | apply below_alloc | apply pw_below_drewN | apply below_drew1) | exact HB.out)) hb); have n3_ := Aside0.mk (hbox); have n4_ := Aside0.mk ((by rw [hg]; exact (below_size (by repeat (first | (with_reducible first | exact HB.out | apply below_alloc | apply pw_below_drewN | apply below_drew1) | exact HB.out))) : w.heap.size ≤ gb178)); have n5_ := Aside0.mk ((by rw [hg]; exact (below_size (by repeat (first | (with_reducible first | exact HB.out | apply below_alloc | apply pw_below_drewN | apply below_drew1) | exact HB.out))) : w.heap.size ≤ gb178)); clear HO_9; clear HO_55; clear HB; have HO_9 := n0_; have HO_55 := n1_; have HB := n2_; have BK178 := n3_; have GW178 := n4_; have GE178 := n5_; clear n0_ n1_ n2_ n3_ n4_ n5_; clear hb hbox hg; have hcz25_0 : w24.cell? ⟨gb178, 0, none⟩ = some (.int .i64 0) := (blk_cell BK178.out 0).trans rfl; have hcz25_1 : w24.cell? ⟨gb178, 1, none⟩ = some (.int .i64 0) := (blk_cell BK178.out 1).trans rfl; have hfz25_0 := blk_frozen BK178.out 0; have hfz25_1 := blk_frozen BK178.out 1))
                        repeat (go_quiet (first | ((with_reducible refine gate_dst (N := 11) rfl ?_); (try (refine gate_guard (by rfl) ?_; dsimp only)); refine box_event ?hg (N := 11) ?hd (cs := #[.int .i64 0, .int .i64 0]) (t := 36) ?hr ?_; (case hd => rfl); (case hg => rfl); (case hr => first | (go_simp; done) | (go_simp; rfl)); intro gb178 hg w24 hbox hb; have n0_ := Aside0.mk (Kd.R_below (Kd.R_elderB (by (with_reducible repeat (first | apply Kd.R_alloc | apply Kd.R_drewN | apply Kd.R_drew)); exact HO_9.out) gb178 (Nat.le_of_eq hg.symm)) hb); have n1_ := Aside0.mk (Kd.R_below (Kd.R_elderB (by (with_reducible repeat (first | apply Kd.R_alloc | apply Kd.R_drewN | apply Kd.R_drew)); exact HO_55.out) gb178 (Nat.le_of_eq hg.symm)) hb); have n2_ := Aside0.mk (below_step (by repeat (first | (with_reducible first | exact HB.out | apply below_alloc | apply pw_below_drewN | apply below_drew1) | exact HB.out)) hb); have n3_ := Aside0.mk (hbox); have n4_ := Aside0.mk ((by rw [hg]; exact (below_size (by repeat (first | (with_reducible first | exact HB.out | apply below_alloc | apply pw_below_drewN | apply below_drew1) | exact HB.out))) : w.heap.size ≤ gb178)); have n5_ := Aside0.mk ((by rw [hg]; exact (below_size (by repeat (first | (with_reducible first | exact HB.out | apply below_alloc | apply pw_below_drewN | apply below_drew1) | exact HB.out))) : w.heap.size ≤ gb178)); clear HO_9; clear HO_55; clear HB; have HO_9 := n0_; have HO_55 := n1_; have HB := n2_; have BK178 := n3_; have GW178 := n4_; have GE178 := n5_; clear n0_ n1_ n2_ n3_ n4_ n5_; clear hb hbox hg; have hcz25_0 : w24.cell? ⟨gb178, 0, none⟩ = some (.int .i64 0) := (blk_cell BK178.out 0).trans rfl; have hcz25_1 : w24.cell? ⟨gb178, 1, none⟩ = some (.int .i64 0) := (blk_cell BK178.out 1).trans rfl; have hfz25_0 := blk_frozen BK178.out 0; have hfz25_1 := blk_frozen BK178.out 1)); go_upto_region 16 with (first | ((with_reducible refine gate_dst (N := 11) rfl ?_); (try (refine gate_guard (by rfl) ?_; dsimp only)); refine box_event ?hg (N := 11) ?hd (cs := #[.int .i64 0, .int .i64 0]) (t := 36) ?hr ?_; (case hd => rfl); (case hg => rfl); (case hr => first | (go_simp; done) | (go_simp; rfl)); intro gb178 hg w24 hbox hb; have n0_ := Aside0.mk (Kd.R_below (Kd.R_elderB (by (with_reducible repeat (first | apply Kd.R_alloc | apply Kd.R_drewN | apply Kd.R_drew)); exact HO_9.out) gb178 (Nat.le_of_eq hg.symm)) hb); have n1_ := Aside0.mk (Kd.R_below (Kd.R_elderB (by (with_reducible repeat (first | apply Kd.R_alloc | apply Kd.R_drewN | apply Kd.R_drew)); exact HO_55.out) gb178 (Nat.le_of_eq hg.symm)) hb); have n2_ := Aside0.mk (below_step (by repeat (first | (with_reducible first | exact HB.out | apply below_alloc | apply pw_below_drewN | apply below_drew1) | exact HB.out)) hb); have n3_ := Aside0.mk (hbox); have n4_ := Aside0.mk ((by rw [hg]; exact (below_size (by repeat (first | (with_reducible first | exact HB.out | apply below_alloc | apply pw_below_drewN | apply below_drew1) | exact HB.out))) : w.heap.size ≤ gb178)); have n5_ := Aside0.mk ((by rw [hg]; exact (below_size (by repeat (first | (with_reducible first | exact HB.out | apply below_alloc | apply pw_below_drewN | apply below_drew1) | exact HB.out))) : w.heap.size ≤ gb178)); clear HO_9; clear HO_55; clear HB; have HO_9 := n0_; have HO_55 := n1_; have HB := n2_; have BK178 := n3_; have GW178 := n4_; have GE178 := n5_; clear n0_ n1_ n2_ n3_ n4_ n5_; clear hb hbox hg; have hcz25_0 : w24.cell? ⟨gb178, 0, none⟩ = some (.int .i64 0) := (blk_cell BK178.out 0).trans rfl; have hcz25_1 : w24.cell? ⟨gb178, 1, none⟩ = some (.int .i64 0) := (blk_cell BK178.out 1).trans rfl; have hfz25_0 := blk_frozen BK178.out 0; have hfz25_1 := blk_frozen BK178.out 1)))
                        (try simp only [Act.put, List.setIfInBounds_toArray, List.set_cons_zero, List.set_cons_succ])
                        go_cut [122] (fun v122 wc => ∃ (kq : Nat) (x122_22 : Bool), v122 = .bool x122_22 ∧ Aside0 (oriellaw27_DiffLeast.j4 kq l0 l1 t174 t174 (t174.length : Int) x57_3 x122_22 = some r) ∧ Aside0 (kq ≤ k3) ∧ Aside0 (Kd.R k36 36 wc w.heap.size (fun k_ => k_ ≠ gb178) (.slice (some ad177) t174.length co19) t174) ∧ Aside0 (Kd.R k36 36 wc w.heap.size (fun k_ => k_ ≠ gb178) (.slice (some ad177) t174.length co19) t174) ∧ Aside0 (wc.heap[gb178]? = some (.cells #[.int .i64 ((rd_T36 t174 x57_3).f0), .int .i64 ((rd_T36 t174 x57_3).f1)] 36 (0, 0))) ∧ Aside0 (Below w.heap.size w wc))
                        case first =>
                          have H := HC23.out
                          clear HC23
                          by_cases c26 : ((rd_T36 t174 x57_3).f0) < 0
                          · rw [if_pos c26] at H
                            exact absurd H (by simp)
                          · rw [if_neg c26] at H
                            have c26b0 : decide (((rd_T36 t174 x57_3).f0) < 0) = false := decide_eq_false c26
                            clear c26
                            (first | rw [c26b0] | (simp only [i64_w, i32_w]; rw [c26b0]) | skip)
                            by_cases c27 : ((rd_T36 t174 x57_3).f1) < 0
                            · rw [if_pos c27] at H
                              exact absurd H (by simp)
                            · rw [if_neg c27] at H
                              have c27b0 : decide (((rd_T36 t174 x57_3).f1) < 0) = false := decide_eq_false c27
                              clear c27
                              by_cases c28 : ((rd_T36 t174 x57_3).f0) ≥ (l0.length : Int)
                              · rw [if_pos c28] at H
                                exact absurd H (by simp)
                              · rw [if_neg c28] at H
                                have c28b0 : decide ((l0.length : Int) ≤ ((rd_T36 t174 x57_3).f0)) = false := decide_eq_false c28
                                clear c28
                                by_cases c29 : ((rd_T36 t174 x57_3).f1) ≥ (l1.length : Int)
                                · rw [if_pos c29] at H
                                  exact absurd H (by simp)
                                · rw [if_neg c29] at H
                                  have c29b0 : decide ((l1.length : Int) ≤ ((rd_T36 t174 x57_3).f1)) = false := decide_eq_false c29
                                  clear c29
                                  by_cases c30 : 0 ≤ ((rd_T36 t174 x57_3).f0)
                                  · rw [if_pos c30] at H
                                    have c30b0 : decide (0 ≤ ((rd_T36 t174 x57_3).f0)) = true := decide_eq_true c30
                                    clear c30
                                    by_cases c31 : ((rd_T36 t174 x57_3).f0) < (l0.length : Int)
                                    · rw [if_pos c31] at H
                                      have c31b0 : decide (((rd_T36 t174 x57_3).f0) < (l0.length : Int)) = true := decide_eq_true c31
                                      clear c31
                                      by_cases c32 : 0 ≤ ((rd_T36 t174 x57_3).f1)
                                      · rw [if_pos c32] at H
                                        have c32b0 : decide (0 ≤ ((rd_T36 t174 x57_3).f1)) = true := decide_eq_true c32
                                        clear c32
                                        by_cases c33 : ((rd_T36 t174 x57_3).f1) < (l1.length : Int)
                                        · rw [if_pos c33] at H
                                          have c33b0 : decide (((rd_T36 t174 x57_3).f1) < (l1.length : Int)) = true := decide_eq_true c33
                                          clear c33
                                          by_cases c34 : (rdOf ByteArray.empty l0 ((rd_T36 t174 x57_3).f0)).toList = (rdOf ByteArray.empty l1 ((rd_T36 t174 x57_3).f1)).toList
                                          · rw [if_pos c34] at H
                                            have c34b0 : ((rdOf ByteArray.empty l0 ((rd_T36 t174 x57_3).f0)).toList == (rdOf ByteArray.empty l1 ((rd_T36 t174 x57_3).f1)).toList) = true := beq_iff_eq.mpr c34
                                            have c34b1 : ((rdOf ByteArray.empty l0 ((rd_T36 t174 x57_3).f0)).toList != (rdOf ByteArray.empty l1 ((rd_T36 t174 x57_3).f1)).toList) = false := bne_eq_false_iff_eq.mpr c34
                                            clear c34
                                            by_cases c35 : x57_3 > 0
                                            · rw [if_pos c35] at H
                                              have c35b0 : decide (0 < x57_3) = true := decide_eq_true c35
                                              clear c35
                                              obtain ⟨ji36, hji36⟩ : ∃ j_ : Int, (wrap64 (x57_3 - 1)) = j_ := ⟨_, rfl⟩
                                              replace H : (if 0 ≤ (ji36) then (if (ji36) < (t174.length : Int) then (if ((rd_T36 t174 x57_3).f0) ≤ ((rd_T36 t174 (ji36)).f0) then (none) else (oriellaw27_DiffLeast.j4 k3 l0 l1 t174 t174 (t174.length : Int) x57_3 (decide (((rd_T36 t174 x57_3).f1) ≤ ((rd_T36 t174 (ji36)).f1))))) else (none)) else (none)) = some r := by first | (rw [hji36] at H; exact H) | (simp only [hji36] at H ⊢; exact H)
                                              have hji36w : (IntKind.i64.wrap (x57_3 - 1)) = ji36 := (i64_w _).trans hji36
                                              by_cases c37 : 0 ≤ (ji36)
                                              · rw [if_pos c37] at H
                                                have c37b0 : decide (0 ≤ (ji36)) = true := decide_eq_true c37
                                                clear c37
                                                by_cases c38 : (ji36) < (t174.length : Int)
                                                · rw [if_pos c38] at H
                                                  have c38b0 : decide ((ji36) < (t174.length : Int)) = true := decide_eq_true c38
                                                  clear c38
                                                  by_cases c39 : ((rd_T36 t174 x57_3).f0) ≤ ((rd_T36 t174 (ji36)).f0)
                                                  · rw [if_pos c39] at H
                                                    exact absurd H (by simp)
                                                  · rw [if_neg c39] at H
                                                    have c39b0 : decide (((rd_T36 t174 x57_3).f0) ≤ ((rd_T36 t174 (ji36)).f0)) = false := decide_eq_false c39
                                                    clear c39
                                                    have H' := Aside0.mk H
                                                    clear H
                                                    have hcz40_0 : w24.cell? ⟨gb178, 0, none⟩ = some (.int .i64 0) := (blk_cell BK178.out 0).trans rfl
                                                    have hcz40_1 : w24.cell? ⟨gb178, 1, none⟩ = some (.int .i64 0) := (blk_cell BK178.out 1).trans rfl
                                                    have hfz40_0 := blk_frozen BK178.out 0
                                                    have hfz40_1 := blk_frozen BK178.out 1
                                                    have p179 : 0 ≤ (((rd_T36 t174 x57_3).f0) : Int) := of_decide_eq_true (by first | (with_reducible assumption) | assumption)
                                                    have q179 : ((rd_T36 t174 x57_3).f0) < (l0.length : Int) := of_decide_eq_true (by first | (with_reducible assumption) | assumption)
                                                    obtain ⟨ad179, e179, hx179_0⟩ := Kd.at_string HR0.out ((rd_T36 t174 x57_3).f0) p179 q179
                                                    cases e179
                                                    have hn179_0 : ad179.block ≠ gb178 := Nat.ne_of_lt (Nat.lt_of_lt_of_le (by have := World.block_lt_of_cell? _ _ hx179_0; first | rwa [add_block] at this | exact this) GW178.out)
                                                    have hn179_1 : ad179.block ≠ gb178 := Nat.ne_of_lt (Nat.lt_of_lt_of_le (by have := World.block_lt_of_cell? _ _ hx179_0; first | rwa [add_block] at this | exact this) GW178.out)
                                                    replace hx179_0 := (HB.out.cell (World.block_lt_of_cell? w _ hx179_0)).trans hx179_0
                                                    replace hx179_0 := (cell_far (p := ⟨gb178, 0, none⟩) (by first | (rw [add_block]; exact hn179_0) | (show (Addr.add _ _).block ≠ _; rw [add_block]; exact hn179_0) | exact hn179_0) (.int .i64 ((rd_T36 t174 x57_3).f0))).trans hx179_0
                                                    replace hx179_0 := (cell_far (p := ⟨gb178, 1, none⟩) (by first | (rw [add_block]; exact hn179_1) | (show (Addr.add _ _).block ≠ _; rw [add_block]; exact hn179_1) | exact hn179_1) (.int .i64 ((rd_T36 t174 x57_3).f1))).trans hx179_0
                                                    (try have hy179_0 := fun (n_ : Nat) => (show ((((w24.drewN n_).setCell ⟨gb178, 0, none⟩ (.int .i64 ((rd_T36 t174 x57_3).f0))).setCell ⟨gb178, 1, none⟩ (.int .i64 ((rd_T36 t174 x57_3).f1)))).cell? _ = some _ from hx179_0))
                                                    clear hn179_0
                                                    clear hn179_1
                                                    replace p179 := eq_true p179
                                                    replace q179 := eq_true q179
                                                    have p180 : 0 ≤ (((rd_T36 t174 x57_3).f1) : Int) := of_decide_eq_true (by first | (with_reducible assumption) | assumption)
                                                    have q180 : ((rd_T36 t174 x57_3).f1) < (l1.length : Int) := of_decide_eq_true (by first | (with_reducible assumption) | assumption)
                                                    obtain ⟨ad180, e180, hx180_0⟩ := Kd.at_string HR1.out ((rd_T36 t174 x57_3).f1) p180 q180
                                                    cases e180
                                                    have hn180_0 : ad180.block ≠ gb178 := Nat.ne_of_lt (Nat.lt_of_lt_of_le (by have := World.block_lt_of_cell? _ _ hx180_0; first | rwa [add_block] at this | exact this) GW178.out)
                                                    have hn180_1 : ad180.block ≠ gb178 := Nat.ne_of_lt (Nat.lt_of_lt_of_le (by have := World.block_lt_of_cell? _ _ hx180_0; first | rwa [add_block] at this | exact this) GW178.out)
                                                    replace hx180_0 := (HB.out.cell (World.block_lt_of_cell? w _ hx180_0)).trans hx180_0
                                                    replace hx180_0 := (cell_far (p := ⟨gb178, 0, none⟩) (by first | (rw [add_block]; exact hn180_0) | (show (Addr.add _ _).block ≠ _; rw [add_block]; exact hn180_0) | exact hn180_0) (.int .i64 ((rd_T36 t174 x57_3).f0))).trans hx180_0
                                                    replace hx180_0 := (cell_far (p := ⟨gb178, 1, none⟩) (by first | (rw [add_block]; exact hn180_1) | (show (Addr.add _ _).block ≠ _; rw [add_block]; exact hn180_1) | exact hn180_1) (.int .i64 ((rd_T36 t174 x57_3).f1))).trans hx180_0
                                                    (try have hy180_0 := fun (n_ : Nat) => (show ((((w24.drewN n_).setCell ⟨gb178, 0, none⟩ (.int .i64 ((rd_T36 t174 x57_3).f0))).setCell ⟨gb178, 1, none⟩ (.int .i64 ((rd_T36 t174 x57_3).f1)))).cell? _ = some _ from hx180_0))
                                                    clear hn180_0
                                                    clear hn180_1
                                                    replace p180 := eq_true p180
                                                    replace q180 := eq_true q180
                                                    have p181 : 0 ≤ ((ji36) : Int) := of_decide_eq_true (by first | (with_reducible assumption) | assumption)
                                                    have q181 : (ji36) < (t174.length : Int) := of_decide_eq_true (by first | (with_reducible assumption) | assumption)
                                                    obtain ⟨ad181, e181, hx181_0, hx181_1⟩ := at_T36 (Kd.R_reads' HO_9.out).2.2 (ji36) p181 q181
                                                    obtain rfl : ad177 = ad181 := (by injection e181)
                                                    have hn181_0 : ad177.block ≠ gb178 := (by first | exact Kd.own_blk (Kd.R_ne HO_9.out BK178.out (by decide)) | exact Kd.own_blk (fun e_ => (by have h_ := HO_9.out.1 _ e_.symm; first | exact h_ rfl | exact h_.2 rfl | exact h_.1 rfl)))
                                                    have hn181_1 : ad177.block ≠ gb178 := (by first | exact Kd.own_blk (Kd.R_ne HO_9.out BK178.out (by decide)) | exact Kd.own_blk (fun e_ => (by have h_ := HO_9.out.1 _ e_.symm; first | exact h_ rfl | exact h_.2 rfl | exact h_.1 rfl)))
                                                    replace hx181_0 := (cell_far (p := ⟨gb178, 0, none⟩) (by first | (rw [add_block]; exact hn181_0) | (show (Addr.add _ _).block ≠ _; rw [add_block]; exact hn181_0) | exact hn181_0) (.int .i64 ((rd_T36 t174 x57_3).f0))).trans hx181_0
                                                    replace hx181_1 := (cell_far (p := ⟨gb178, 0, none⟩) (by first | (rw [add_block]; exact hn181_0) | (show (Addr.add _ _).block ≠ _; rw [add_block]; exact hn181_0) | exact hn181_0) (.int .i64 ((rd_T36 t174 x57_3).f0))).trans hx181_1
                                                    replace hx181_0 := (cell_far (p := ⟨gb178, 1, none⟩) (by first | (rw [add_block]; exact hn181_1) | (show (Addr.add _ _).block ≠ _; rw [add_block]; exact hn181_1) | exact hn181_1) (.int .i64 ((rd_T36 t174 x57_3).f1))).trans hx181_0
                                                    replace hx181_1 := (cell_far (p := ⟨gb178, 1, none⟩) (by first | (rw [add_block]; exact hn181_1) | (show (Addr.add _ _).block ≠ _; rw [add_block]; exact hn181_1) | exact hn181_1) (.int .i64 ((rd_T36 t174 x57_3).f1))).trans hx181_1
                                                    (try have hy181_0 := fun (n_ : Nat) => (show ((((w24.drewN n_).setCell ⟨gb178, 0, none⟩ (.int .i64 ((rd_T36 t174 x57_3).f0))).setCell ⟨gb178, 1, none⟩ (.int .i64 ((rd_T36 t174 x57_3).f1)))).cell? _ = some _ from hx181_0))
                                                    (try have hy181_1 := fun (n_ : Nat) => (show ((((w24.drewN n_).setCell ⟨gb178, 0, none⟩ (.int .i64 ((rd_T36 t174 x57_3).f0))).setCell ⟨gb178, 1, none⟩ (.int .i64 ((rd_T36 t174 x57_3).f1)))).cell? _ = some _ from hx181_1))
                                                    clear hn181_0
                                                    clear hn181_1
                                                    replace p181 := eq_true p181
                                                    replace q181 := eq_true q181
                                                    have p182 : 0 ≤ ((ji36) : Int) := of_decide_eq_true (by first | (with_reducible assumption) | assumption)
                                                    have q182 : (ji36) < (t174.length : Int) := of_decide_eq_true (by first | (with_reducible assumption) | assumption)
                                                    obtain ⟨ad182, e182, hx182_0, hx182_1⟩ := at_T36 (Kd.R_reads' HO_9.out).2.2 (ji36) p182 q182
                                                    obtain rfl : ad177 = ad182 := (by injection e182)
                                                    have hn182_0 : ad177.block ≠ gb178 := (by first | exact Kd.own_blk (Kd.R_ne HO_9.out BK178.out (by decide)) | exact Kd.own_blk (fun e_ => (by have h_ := HO_9.out.1 _ e_.symm; first | exact h_ rfl | exact h_.2 rfl | exact h_.1 rfl)))
                                                    have hn182_1 : ad177.block ≠ gb178 := (by first | exact Kd.own_blk (Kd.R_ne HO_9.out BK178.out (by decide)) | exact Kd.own_blk (fun e_ => (by have h_ := HO_9.out.1 _ e_.symm; first | exact h_ rfl | exact h_.2 rfl | exact h_.1 rfl)))
                                                    replace hx182_0 := (cell_far (p := ⟨gb178, 0, none⟩) (by first | (rw [add_block]; exact hn182_0) | (show (Addr.add _ _).block ≠ _; rw [add_block]; exact hn182_0) | exact hn182_0) (.int .i64 ((rd_T36 t174 x57_3).f0))).trans hx182_0
                                                    replace hx182_1 := (cell_far (p := ⟨gb178, 0, none⟩) (by first | (rw [add_block]; exact hn182_0) | (show (Addr.add _ _).block ≠ _; rw [add_block]; exact hn182_0) | exact hn182_0) (.int .i64 ((rd_T36 t174 x57_3).f0))).trans hx182_1
                                                    replace hx182_0 := (cell_far (p := ⟨gb178, 1, none⟩) (by first | (rw [add_block]; exact hn182_1) | (show (Addr.add _ _).block ≠ _; rw [add_block]; exact hn182_1) | exact hn182_1) (.int .i64 ((rd_T36 t174 x57_3).f1))).trans hx182_0
                                                    replace hx182_1 := (cell_far (p := ⟨gb178, 1, none⟩) (by first | (rw [add_block]; exact hn182_1) | (show (Addr.add _ _).block ≠ _; rw [add_block]; exact hn182_1) | exact hn182_1) (.int .i64 ((rd_T36 t174 x57_3).f1))).trans hx182_1
                                                    (try have hy182_0 := fun (n_ : Nat) => (show ((((w24.drewN n_).setCell ⟨gb178, 0, none⟩ (.int .i64 ((rd_T36 t174 x57_3).f0))).setCell ⟨gb178, 1, none⟩ (.int .i64 ((rd_T36 t174 x57_3).f1)))).cell? _ = some _ from hx182_0))
                                                    (try have hy182_1 := fun (n_ : Nat) => (show ((((w24.drewN n_).setCell ⟨gb178, 0, none⟩ (.int .i64 ((rd_T36 t174 x57_3).f0))).setCell ⟨gb178, 1, none⟩ (.int .i64 ((rd_T36 t174 x57_3).f1)))).cell? _ = some _ from hx182_1))
                                                    clear hn182_0
                                                    clear hn182_1
                                                    replace p182 := eq_true p182
                                                    replace q182 := eq_true q182
                                                    go_wp2
                                                    repeat (go_quiet (fail); try go_wp2)
                                                    go_meet
                                                    case rel => exact ⟨_, (decide (((rd_T36 t174 x57_3).f1) ≤ ((rd_T36 t174 (ji36)).f1))), (by first | rfl | (simp; done) | (simp only [← hji36] <;> (first | rfl | simp)) | (simp [*]; done)), H', ⟨by have := HK1.out; have := HJ10.out; have := HK3.out; first | omega | exact Nat.le_refl _⟩, ⟨by (with_reducible repeat (first | apply Kd.R_alloc | apply Kd.R_drewN | apply Kd.R_drew)); exact Kd.R_mono (Kd.R_far (p := ⟨gb178, 1, none⟩) (Kd.R_far (p := ⟨gb178, 0, none⟩) (Kd.R_mono HO_9.out (fun k_ hk => (⟨hk, hk.2⟩ : _ ∧ k_ ≠ gb178))) (fun _ hk => hk.2) (.int .i64 ((rd_T36 t174 x57_3).f0))) (fun _ hk => hk.2) (.int .i64 ((rd_T36 t174 x57_3).f1))) (fun _ hk => hk.1.2)⟩, ⟨by (with_reducible repeat (first | apply Kd.R_alloc | apply Kd.R_drewN | apply Kd.R_drew)); exact Kd.R_mono (Kd.R_far (p := ⟨gb178, 1, none⟩) (Kd.R_far (p := ⟨gb178, 0, none⟩) (Kd.R_mono HO_55.out (fun k_ hk => (⟨hk, hk.2⟩ : _ ∧ k_ ≠ gb178))) (fun _ hk => hk.2) (.int .i64 ((rd_T36 t174 x57_3).f0))) (fun _ hk => hk.2) (.int .i64 ((rd_T36 t174 x57_3).f1))) (fun _ hk => hk.1.2)⟩, ⟨by (with_reducible repeat (first | refine blk_drewN ?_ _ | refine blk_drew ?_ | refine blk_alloc ?_ _)); refine blk_put (cs := #[.int .i64 ((rd_T36 t174 x57_3).f0), .int .i64 0]) ?_ 1 _ rfl; (with_reducible repeat (first | refine blk_drewN ?_ _ | refine blk_drew ?_ | refine blk_alloc ?_ _)); refine blk_put (cs := #[.int .i64 0, .int .i64 0]) ?_ 0 _ rfl; (with_reducible repeat (first | refine blk_drewN ?_ _ | refine blk_drew ?_ | refine blk_alloc ?_ _)); exact BK178.out⟩, ⟨by repeat (first | (with_reducible first | exact HB.out | apply below_alloc | apply pw_below_drewN | apply below_drew1 | refine below_set ?_ GE178.out) | exact HB.out)⟩⟩
                                                · rw [if_neg c38] at H
                                                  exact absurd H (by simp)
                                              · rw [if_neg c37] at H
                                                exact absurd H (by simp)
                                            · rw [if_neg c35] at H
                                              have c35b0 : decide (0 < x57_3) = false := decide_eq_false c35
                                              clear c35
                                              have H' := Aside0.mk H
                                              clear H
                                              have hcz41_0 : w24.cell? ⟨gb178, 0, none⟩ = some (.int .i64 0) := (blk_cell BK178.out 0).trans rfl
                                              have hcz41_1 : w24.cell? ⟨gb178, 1, none⟩ = some (.int .i64 0) := (blk_cell BK178.out 1).trans rfl
                                              have hfz41_0 := blk_frozen BK178.out 0
                                              have hfz41_1 := blk_frozen BK178.out 1
                                              have p179 : 0 ≤ (((rd_T36 t174 x57_3).f0) : Int) := of_decide_eq_true (by first | (with_reducible assumption) | assumption)
                                              have q179 : ((rd_T36 t174 x57_3).f0) < (l0.length : Int) := of_decide_eq_true (by first | (with_reducible assumption) | assumption)
                                              obtain ⟨ad179, e179, hx179_0⟩ := Kd.at_string HR0.out ((rd_T36 t174 x57_3).f0) p179 q179
                                              cases e179
                                              have hn179_0 : ad179.block ≠ gb178 := Nat.ne_of_lt (Nat.lt_of_lt_of_le (by have := World.block_lt_of_cell? _ _ hx179_0; first | rwa [add_block] at this | exact this) GW178.out)
                                              have hn179_1 : ad179.block ≠ gb178 := Nat.ne_of_lt (Nat.lt_of_lt_of_le (by have := World.block_lt_of_cell? _ _ hx179_0; first | rwa [add_block] at this | exact this) GW178.out)
                                              replace hx179_0 := (HB.out.cell (World.block_lt_of_cell? w _ hx179_0)).trans hx179_0
                                              replace hx179_0 := (cell_far (p := ⟨gb178, 0, none⟩) (by first | (rw [add_block]; exact hn179_0) | (show (Addr.add _ _).block ≠ _; rw [add_block]; exact hn179_0) | exact hn179_0) (.int .i64 ((rd_T36 t174 x57_3).f0))).trans hx179_0
                                              replace hx179_0 := (cell_far (p := ⟨gb178, 1, none⟩) (by first | (rw [add_block]; exact hn179_1) | (show (Addr.add _ _).block ≠ _; rw [add_block]; exact hn179_1) | exact hn179_1) (.int .i64 ((rd_T36 t174 x57_3).f1))).trans hx179_0
                                              (try have hy179_0 := fun (n_ : Nat) => (show ((((w24.drewN n_).setCell ⟨gb178, 0, none⟩ (.int .i64 ((rd_T36 t174 x57_3).f0))).setCell ⟨gb178, 1, none⟩ (.int .i64 ((rd_T36 t174 x57_3).f1)))).cell? _ = some _ from hx179_0))
                                              clear hn179_0
                                              clear hn179_1
                                              replace p179 := eq_true p179
                                              replace q179 := eq_true q179
                                              have p180 : 0 ≤ (((rd_T36 t174 x57_3).f1) : Int) := of_decide_eq_true (by first | (with_reducible assumption) | assumption)
                                              have q180 : ((rd_T36 t174 x57_3).f1) < (l1.length : Int) := of_decide_eq_true (by first | (with_reducible assumption) | assumption)
                                              obtain ⟨ad180, e180, hx180_0⟩ := Kd.at_string HR1.out ((rd_T36 t174 x57_3).f1) p180 q180
                                              cases e180
                                              have hn180_0 : ad180.block ≠ gb178 := Nat.ne_of_lt (Nat.lt_of_lt_of_le (by have := World.block_lt_of_cell? _ _ hx180_0; first | rwa [add_block] at this | exact this) GW178.out)
                                              have hn180_1 : ad180.block ≠ gb178 := Nat.ne_of_lt (Nat.lt_of_lt_of_le (by have := World.block_lt_of_cell? _ _ hx180_0; first | rwa [add_block] at this | exact this) GW178.out)
                                              replace hx180_0 := (HB.out.cell (World.block_lt_of_cell? w _ hx180_0)).trans hx180_0
                                              replace hx180_0 := (cell_far (p := ⟨gb178, 0, none⟩) (by first | (rw [add_block]; exact hn180_0) | (show (Addr.add _ _).block ≠ _; rw [add_block]; exact hn180_0) | exact hn180_0) (.int .i64 ((rd_T36 t174 x57_3).f0))).trans hx180_0
                                              replace hx180_0 := (cell_far (p := ⟨gb178, 1, none⟩) (by first | (rw [add_block]; exact hn180_1) | (show (Addr.add _ _).block ≠ _; rw [add_block]; exact hn180_1) | exact hn180_1) (.int .i64 ((rd_T36 t174 x57_3).f1))).trans hx180_0
                                              (try have hy180_0 := fun (n_ : Nat) => (show ((((w24.drewN n_).setCell ⟨gb178, 0, none⟩ (.int .i64 ((rd_T36 t174 x57_3).f0))).setCell ⟨gb178, 1, none⟩ (.int .i64 ((rd_T36 t174 x57_3).f1)))).cell? _ = some _ from hx180_0))
                                              clear hn180_0
                                              clear hn180_1
                                              replace p180 := eq_true p180
                                              replace q180 := eq_true q180
                                              go_wp2
                                              repeat (go_quiet (fail); try go_wp2)
                                              go_meet
                                              case rel => exact ⟨_, (false), (by first | rfl | (simp; done) | (simp [*]; done)), H', ⟨by have := HK1.out; have := HJ10.out; have := HK3.out; first | omega | exact Nat.le_refl _⟩, ⟨by (with_reducible repeat (first | apply Kd.R_alloc | apply Kd.R_drewN | apply Kd.R_drew)); exact Kd.R_mono (Kd.R_far (p := ⟨gb178, 1, none⟩) (Kd.R_far (p := ⟨gb178, 0, none⟩) (Kd.R_mono HO_9.out (fun k_ hk => (⟨hk, hk.2⟩ : _ ∧ k_ ≠ gb178))) (fun _ hk => hk.2) (.int .i64 ((rd_T36 t174 x57_3).f0))) (fun _ hk => hk.2) (.int .i64 ((rd_T36 t174 x57_3).f1))) (fun _ hk => hk.1.2)⟩, ⟨by (with_reducible repeat (first | apply Kd.R_alloc | apply Kd.R_drewN | apply Kd.R_drew)); exact Kd.R_mono (Kd.R_far (p := ⟨gb178, 1, none⟩) (Kd.R_far (p := ⟨gb178, 0, none⟩) (Kd.R_mono HO_55.out (fun k_ hk => (⟨hk, hk.2⟩ : _ ∧ k_ ≠ gb178))) (fun _ hk => hk.2) (.int .i64 ((rd_T36 t174 x57_3).f0))) (fun _ hk => hk.2) (.int .i64 ((rd_T36 t174 x57_3).f1))) (fun _ hk => hk.1.2)⟩, ⟨by (with_reducible repeat (first | refine blk_drewN ?_ _ | refine blk_drew ?_ | refine blk_alloc ?_ _)); refine blk_put (cs := #[.int .i64 ((rd_T36 t174 x57_3).f0), .int .i64 0]) ?_ 1 _ rfl; (with_reducible repeat (first | refine blk_drewN ?_ _ | refine blk_drew ?_ | refine blk_alloc ?_ _)); refine blk_put (cs := #[.int .i64 0, .int .i64 0]) ?_ 0 _ rfl; (with_reducible repeat (first | refine blk_drewN ?_ _ | refine blk_drew ?_ | refine blk_alloc ?_ _)); exact BK178.out⟩, ⟨by repeat (first | (with_reducible first | exact HB.out | apply below_alloc | apply pw_below_drewN | apply below_drew1 | refine below_set ?_ GE178.out) | exact HB.out)⟩⟩
                                          · rw [if_neg c34] at H
                                            exact absurd H (by simp)
                                        · rw [if_neg c33] at H
                                          exact absurd H (by simp)
                                      · rw [if_neg c32] at H
                                        exact absurd H (by simp)
                                    · rw [if_neg c31] at H
                                      exact absurd H (by simp)
                                  · rw [if_neg c30] at H
                                    exact absurd H (by simp)
                        case rest =>
                          clear HC23
                          try clear c1
                          try clear p1
                          try clear q1
                          try clear hx1
                          try clear c2
                          try clear p2
                          try clear c3
                          try clear c4
                          try clear c4b0
                          try clear c5
                          try clear c5b0
                          try clear c6
                          try clear c6b0
                          try clear p6
                          try clear c7
                          try clear c7b0
                          try clear c8
                          try clear c8b0
                          try clear c9
                          try clear c9b0
                          try clear c12
                          try clear c12b0
                          try clear c12b1
                          try clear c13
                          try clear c13b0
                          try clear c13b1
                          try clear c14
                          try clear c17
                          try clear p17
                          try clear q17
                          try clear hx17
                          try clear p18
                          try clear q18
                          try clear hx18
                          try clear c20
                          try clear c20b0
                          try clear c21
                          try clear c21b0
                          try clear c22
                          try clear c22b0
                          try clear c26
                          try clear c26b0
                          try clear c27
                          try clear c27b0
                          try clear c28
                          try clear c28b0
                          try clear c29
                          try clear c29b0
                          try clear c30
                          try clear c30b0
                          try clear c31
                          try clear c31b0
                          try clear c32
                          try clear c32b0
                          try clear c33
                          try clear c33b0
                          try clear c34
                          try clear c34b0
                          try clear c34b1
                          try clear c35
                          try clear c35b0
                          try clear c37
                          try clear c37b0
                          try clear c38
                          try clear c38b0
                          try clear c39
                          try clear c39b0
                          try clear hcz25_0
                          try clear hcz25_1
                          try clear hcz40_0
                          try clear hcz40_1
                          try clear hcz41_0
                          try clear hcz41_1
                          try clear hfz25_0
                          try clear hfz25_1
                          try clear hfz40_0
                          try clear hfz40_1
                          try clear hfz41_0
                          try clear hfz41_1
                          try clear hx171_0
                          try clear hx172_0
                          try clear hx177_0
                          try clear hx177_1
                          try clear hx179_0
                          try clear hx180_0
                          try clear hx181_0
                          try clear hx181_1
                          try clear hx182_0
                          try clear hx182_1
                          try clear p1
                          try clear p17
                          try clear p171
                          try clear p172
                          try clear p177
                          try clear p179
                          try clear p180
                          try clear p181
                          try clear p182
                          try clear p2
                          try clear p6
                          try clear q1
                          try clear q17
                          try clear q171
                          try clear q172
                          try clear q177
                          try clear q179
                          try clear q180
                          try clear q181
                          try clear q182
                          obtain ⟨kq, x122_22, rfl, HA, HJ22, HO_9, HO_55, BK178, HB⟩ := hcut
                          cases kq with
                          | zero => exact absurd HA.out (by simp [oriellaw27_DiffLeast.j4])
                          | succ kj22 =>
                            have H := HA.out
                            clear HA
                            simp only [oriellaw27_DiffLeast.j4] at H
                            by_cases c42 : x122_22 = true
                            · subst c42
                              have H1 : (none) = some r := by rw [if_pos rfl] at H; exact H
                              clear H
                              have H := H1
                              clear H1
                              exact absurd H (by simp)
                            · replace c42 := Bool.eq_false_iff.mpr c42
                              subst c42
                              have H1 : (oriellaw27_DiffLeast.l2 kj22 l0 l1 t174 t174 (t174.length : Int) (wrap64 (x57_3 + 1))) = some r := by rw [if_neg (show ¬ (false = true) by decide)] at H; exact H
                              clear H
                              have H := H1
                              clear H1
                              have H' := Aside0.mk H
                              clear H
                              go_wp2
                              repeat (go_quiet (fail); try go_wp2)
                              go_roundg kj22
                              case measure => have := HK1.out; have := HJ10.out; have := HK3.out; have := HJ22.out; omega
                              case rel => exact ⟨(wrap64 (x57_3 + 1)), (by first | rfl | (simp; done) | (simp [*]; done)), H', ⟨by have := HK1.out; have := HJ10.out; have := HK3.out; have := HJ22.out; omega⟩, ⟨by (with_reducible repeat (first | apply Kd.R_alloc | apply Kd.R_drewN | apply Kd.R_drew)); exact Kd.R_mono HO_9.out (fun _ hk => trivial)⟩, ⟨by (with_reducible repeat (first | apply Kd.R_alloc | apply Kd.R_drewN | apply Kd.R_drew)); exact Kd.R_mono HO_55.out (fun _ hk => trivial)⟩, ⟨by repeat (first | (with_reducible first | exact HB.out | apply below_alloc | apply pw_below_drewN | apply below_drew1 | refine below_set ?_ GE178.out) | exact HB.out)⟩⟩
                      · rw [if_neg c22] at H
                        exact absurd H (by simp)
                    · rw [if_neg c21] at H
                      exact absurd H (by simp)
                  · rw [if_neg c20] at H
                    have c20b0 : decide (x57_3 < (t174.length : Int)) = false := decide_eq_false c20
                    clear c20
                    replace H := Option.bind_eq_some_iff.mp H
                    obtain ⟨t183, A430, H⟩ := H
                    replace H : (if 0 < (t183.length : Int) then (if 0 < ((rd_L4 t183 0).length : Int) then (if (t174.length : Int) = (rd (rd_L4 t183 0) 0) then ((oriellaw27_alive.f k3).bind fun t188 => (some t188)) else (none)) else (none)) else (none)) = some r := H
                    have A43 := Aside0.mk A430
                    clear A430
                    by_cases c44 : 0 < (t183.length : Int)
                    · rw [if_pos c44] at H
                      have c44b0 : decide (0 < (t183.length : Int)) = true := decide_eq_true c44
                      have c44b1 : decide (0 < t183.length) = true := decide_eq_true (by omega)
                      clear c44
                      by_cases c45 : 0 < ((rd_L4 t183 0).length : Int)
                      · rw [if_pos c45] at H
                        have c45b0 : decide (0 < ((rd_L4 t183 0).length : Int)) = true := decide_eq_true c45
                        have c45b1 : decide (0 < (rd_L4 t183 0).length) = true := decide_eq_true (by omega)
                        clear c45
                        by_cases c46 : (t174.length : Int) = (rd (rd_L4 t183 0) 0)
                        · rw [if_pos c46] at H
                          have c46b0 : ((t174.length : Int) == (rd (rd_L4 t183 0) 0)) = true := beq_iff_eq.mpr c46
                          have c46b1 : ((t174.length : Int) != (rd (rd_L4 t183 0) 0)) = false := bne_eq_false_iff_eq.mpr c46
                          clear c46
                          replace H := Option.bind_eq_some_iff.mp H
                          obtain ⟨t188, A470, H⟩ := H
                          replace H : (some t188) = some r := H
                          have A47 := Aside0.mk A470
                          clear A470
                          obtain rfl := Option.some.inj H
                          go_wp2_with (first | (go_at_call 19; (with_reducible refine (orielref27_Rests.calls k3 _ _ l0 _ _ l1 t183 _ ?side1 ?side2 ?side3 ?side4 A43.out).mono ?_); (case side1 => repeat (first | exact (Kd.C_below HR0.out HB.out) | (with_reducible refine Kd.C_alloc ?_ _) | (with_reducible refine Kd.C_drewN ?_ _) | (with_reducible refine Kd.C_drew ?_))); (case side2 => exact HC0.out); (case side3 => repeat (first | exact (Kd.C_below HR1.out HB.out) | (with_reducible refine Kd.C_alloc ?_ _) | (with_reducible refine Kd.C_drewN ?_ _) | (with_reducible refine Kd.C_drew ?_))); (case side4 => exact HC1.out); rintro e w48 ⟨v184, rfl, ho0, hb⟩; have n0_ := Aside0.mk (Kd.R_below (by (with_reducible repeat (first | apply Kd.R_alloc | apply Kd.R_drewN | apply Kd.R_drew)); exact HO_9.out) hb); have n1_ := Aside0.mk (Kd.R_below (by (with_reducible repeat (first | apply Kd.R_alloc | apply Kd.R_drewN | apply Kd.R_drew)); exact HO_55.out) hb); have n2_ := Aside0.mk (Kd.S_lower ho0 (below_size (by repeat (first | (with_reducible first | exact HB.out | apply below_alloc | apply pw_below_drewN | apply below_drew1) | exact HB.out)))); have n3_ := Aside0.mk (below_step (by repeat (first | (with_reducible first | exact HB.out | apply below_alloc | apply pw_below_drewN | apply below_drew1) | exact HB.out)) hb); clear HO_9; clear HO_55; clear HB; have HO_9 := n0_; have HO_55 := n1_; have HO185 := n2_; have HB := n3_; clear n0_ n1_ n2_ n3_; (try clear hb); (try clear hb2); (try clear hk); (try clear hi); (try clear ho0); obtain ⟨Ao49, co49, eo49⟩ := Kd.S_slice HO185.out; subst eo49; have p186 : 0 ≤ (0 : Int) := (by omega); have q186 : 0 < (t183.length : Int) := of_decide_eq_true (by first | (with_reducible assumption) | assumption); obtain ⟨ad186, A186_0, c186_0, e186, hx186_0, hl186_0, hi186_0⟩ := at_L4 (Kd.S_reads' HO185.out).2.2 0 p186 q186; cases e186; obtain ⟨ce186, hce186, hMe186, hcc186⟩ := Kd.S_get HO185.out [] 0 p186 (by first | exact q186 | exact of_decide_eq_true (by first | (with_reducible assumption) | assumption) | (have e_ := (Kd.S_reads' HO185.out).1; omega)); obtain ⟨ve186_0, rfl, ge186_0⟩ := hMe186; have hv186_0 := hcc186 0 _ rfl; rw [Nat.add_zero, show ((Kd.slice 3 (Kd.int .i64))).sz = 1 from rfl, Nat.mul_one] at hv186_0; replace hv186_0 := Option.some.inj (hv186_0.symm.trans hx186_0); rw [hv186_0] at ge186_0; have HL186_0 := Aside0.mk (show Kd.R (Kd.int .i64) 3 _ _ _ _ (rd_L4 t183 0) from ge186_0); clear hv186_0 ge186_0; clear hcc186 hce186; have qi186 : (0 < t183.length) = True := eq_true (by omega); (try rw [show ((0 : Int)).toNat = 0 from rfl] at hx186_0); (try rw [Addr.add_zero'] at hx186_0); have HR186_0 := Aside0.mk hi186_0; have HC186_0 := Aside0.mk hl186_0; clear hi186_0 hl186_0; replace p186 := eq_true p186; replace q186 := eq_true q186; have p187 : 0 ≤ (0 : Int) := (by omega); have q187 : 0 < ((rd_L4 t183 0).length : Int) := of_decide_eq_true (by first | (with_reducible assumption) | assumption); obtain ⟨ad187, e187, hx187_0⟩ := Kd.at_int (by repeat (first | (with_reducible exact HR186_0.out) | (with_reducible refine Kd.C_alloc ?_ _) | (with_reducible refine Kd.C_drewN ?_ _) | (with_reducible refine Kd.C_drew ?_) | exact HR186_0.out)) 0 p187 q187; cases e187; have qi187 : (0 < (rd_L4 t183 0).length) = True := eq_true (by omega); (try rw [show ((0 : Int)).toNat = 0 from rfl] at hx187_0); (try rw [Addr.add_zero'] at hx187_0); replace p187 := eq_true p187; replace q187 := eq_true q187) | (go_at_call 9; (with_reducible refine (oriellaw27_alive.calls k3  t188 _ A47.out).mono ?_); rintro e w50 ⟨rfl, hb⟩; have n0_ := Aside0.mk (Kd.R_below (by (with_reducible repeat (first | apply Kd.R_alloc | apply Kd.R_drewN | apply Kd.R_drew)); exact HO_9.out) hb); have n1_ := Aside0.mk (Kd.R_below (by (with_reducible repeat (first | apply Kd.R_alloc | apply Kd.R_drewN | apply Kd.R_drew)); exact HO_55.out) hb); have n2_ := Aside0.mk (Kd.S_below (by (with_reducible repeat (first | apply Kd.S_alloc | apply Kd.S_drewN | apply Kd.S_drew)); exact HO185.out) hb); have n3_ := Aside0.mk (Kd.R_below (by (with_reducible repeat (first | apply Kd.R_alloc | apply Kd.R_drewN | apply Kd.R_drew)); exact HL186_0.out) hb); have n4_ := Aside0.mk (Kd.C_below (by repeat (first | (with_reducible exact HR186_0.out) | (with_reducible refine Kd.C_alloc ?_ _) | (with_reducible refine Kd.C_drewN ?_ _) | (with_reducible refine Kd.C_drew ?_) | exact HR186_0.out)) hb); have n5_ := Aside0.mk (below_step (by repeat (first | (with_reducible first | exact HB.out | apply below_alloc | apply pw_below_drewN | apply below_drew1) | exact HB.out)) hb); clear HO_9; clear HO_55; clear HO185; clear HL186_0; clear HR186_0; clear HB; have HO_9 := n0_; have HO_55 := n1_; have HO185 := n2_; have HL186_0 := n3_; have HR186_0 := n4_; have HB := n5_; clear n0_ n1_ n2_ n3_ n4_ n5_; (try clear hb); (try clear hb2); (try clear hk); (try clear hi)))
                          repeat (go_quiet (first | (go_at_call 19; (with_reducible refine (orielref27_Rests.calls k3 _ _ l0 _ _ l1 t183 _ ?side1 ?side2 ?side3 ?side4 A43.out).mono ?_); (case side1 => repeat (first | exact (Kd.C_below HR0.out HB.out) | (with_reducible refine Kd.C_alloc ?_ _) | (with_reducible refine Kd.C_drewN ?_ _) | (with_reducible refine Kd.C_drew ?_))); (case side2 => exact HC0.out); (case side3 => repeat (first | exact (Kd.C_below HR1.out HB.out) | (with_reducible refine Kd.C_alloc ?_ _) | (with_reducible refine Kd.C_drewN ?_ _) | (with_reducible refine Kd.C_drew ?_))); (case side4 => exact HC1.out); rintro e w48 ⟨v184, rfl, ho0, hb⟩; have n0_ := Aside0.mk (Kd.R_below (by (with_reducible repeat (first | apply Kd.R_alloc | apply Kd.R_drewN | apply Kd.R_drew)); exact HO_9.out) hb); have n1_ := Aside0.mk (Kd.R_below (by (with_reducible repeat (first | apply Kd.R_alloc | apply Kd.R_drewN | apply Kd.R_drew)); exact HO_55.out) hb); have n2_ := Aside0.mk (Kd.S_lower ho0 (below_size (by repeat (first | (with_reducible first | exact HB.out | apply below_alloc | apply pw_below_drewN | apply below_drew1) | exact HB.out)))); have n3_ := Aside0.mk (below_step (by repeat (first | (with_reducible first | exact HB.out | apply below_alloc | apply pw_below_drewN | apply below_drew1) | exact HB.out)) hb); clear HO_9; clear HO_55; clear HB; have HO_9 := n0_; have HO_55 := n1_; have HO185 := n2_; have HB := n3_; clear n0_ n1_ n2_ n3_; (try clear hb); (try clear hb2); (try clear hk); (try clear hi); (try clear ho0); obtain ⟨Ao49, co49, eo49⟩ := Kd.S_slice HO185.out; subst eo49; have p186 : 0 ≤ (0 : Int) := (by omega); have q186 : 0 < (t183.length : Int) := of_decide_eq_true (by first | (with_reducible assumption) | assumption); obtain ⟨ad186, A186_0, c186_0, e186, hx186_0, hl186_0, hi186_0⟩ := at_L4 (Kd.S_reads' HO185.out).2.2 0 p186 q186; cases e186; obtain ⟨ce186, hce186, hMe186, hcc186⟩ := Kd.S_get HO185.out [] 0 p186 (by first | exact q186 | exact of_decide_eq_true (by first | (with_reducible assumption) | assumption) | (have e_ := (Kd.S_reads' HO185.out).1; omega)); obtain ⟨ve186_0, rfl, ge186_0⟩ := hMe186; have hv186_0 := hcc186 0 _ rfl; rw [Nat.add_zero, show ((Kd.slice 3 (Kd.int .i64))).sz = 1 from rfl, Nat.mul_one] at hv186_0; replace hv186_0 := Option.some.inj (hv186_0.symm.trans hx186_0); rw [hv186_0] at ge186_0; have HL186_0 := Aside0.mk (show Kd.R (Kd.int .i64) 3 _ _ _ _ (rd_L4 t183 0) from ge186_0); clear hv186_0 ge186_0; clear hcc186 hce186; have qi186 : (0 < t183.length) = True := eq_true (by omega); (try rw [show ((0 : Int)).toNat = 0 from rfl] at hx186_0); (try rw [Addr.add_zero'] at hx186_0); have HR186_0 := Aside0.mk hi186_0; have HC186_0 := Aside0.mk hl186_0; clear hi186_0 hl186_0; replace p186 := eq_true p186; replace q186 := eq_true q186; have p187 : 0 ≤ (0 : Int) := (by omega); have q187 : 0 < ((rd_L4 t183 0).length : Int) := of_decide_eq_true (by first | (with_reducible assumption) | assumption); obtain ⟨ad187, e187, hx187_0⟩ := Kd.at_int (by repeat (first | (with_reducible exact HR186_0.out) | (with_reducible refine Kd.C_alloc ?_ _) | (with_reducible refine Kd.C_drewN ?_ _) | (with_reducible refine Kd.C_drew ?_) | exact HR186_0.out)) 0 p187 q187; cases e187; have qi187 : (0 < (rd_L4 t183 0).length) = True := eq_true (by omega); (try rw [show ((0 : Int)).toNat = 0 from rfl] at hx187_0); (try rw [Addr.add_zero'] at hx187_0); replace p187 := eq_true p187; replace q187 := eq_true q187) | (go_at_call 9; (with_reducible refine (oriellaw27_alive.calls k3  t188 _ A47.out).mono ?_); rintro e w50 ⟨rfl, hb⟩; have n0_ := Aside0.mk (Kd.R_below (by (with_reducible repeat (first | apply Kd.R_alloc | apply Kd.R_drewN | apply Kd.R_drew)); exact HO_9.out) hb); have n1_ := Aside0.mk (Kd.R_below (by (with_reducible repeat (first | apply Kd.R_alloc | apply Kd.R_drewN | apply Kd.R_drew)); exact HO_55.out) hb); have n2_ := Aside0.mk (Kd.S_below (by (with_reducible repeat (first | apply Kd.S_alloc | apply Kd.S_drewN | apply Kd.S_drew)); exact HO185.out) hb); have n3_ := Aside0.mk (Kd.R_below (by (with_reducible repeat (first | apply Kd.R_alloc | apply Kd.R_drewN | apply Kd.R_drew)); exact HL186_0.out) hb); have n4_ := Aside0.mk (Kd.C_below (by repeat (first | (with_reducible exact HR186_0.out) | (with_reducible refine Kd.C_alloc ?_ _) | (with_reducible refine Kd.C_drewN ?_ _) | (with_reducible refine Kd.C_drew ?_) | exact HR186_0.out)) hb); have n5_ := Aside0.mk (below_step (by repeat (first | (with_reducible first | exact HB.out | apply below_alloc | apply pw_below_drewN | apply below_drew1) | exact HB.out)) hb); clear HO_9; clear HO_55; clear HO185; clear HL186_0; clear HR186_0; clear HB; have HO_9 := n0_; have HO_55 := n1_; have HO185 := n2_; have HL186_0 := n3_; have HR186_0 := n4_; have HB := n5_; clear n0_ n1_ n2_ n3_ n4_ n5_; (try clear hb); (try clear hb2); (try clear hk); (try clear hi))); try go_wp2_with (first | (go_at_call 19; (with_reducible refine (orielref27_Rests.calls k3 _ _ l0 _ _ l1 t183 _ ?side1 ?side2 ?side3 ?side4 A43.out).mono ?_); (case side1 => repeat (first | exact (Kd.C_below HR0.out HB.out) | (with_reducible refine Kd.C_alloc ?_ _) | (with_reducible refine Kd.C_drewN ?_ _) | (with_reducible refine Kd.C_drew ?_))); (case side2 => exact HC0.out); (case side3 => repeat (first | exact (Kd.C_below HR1.out HB.out) | (with_reducible refine Kd.C_alloc ?_ _) | (with_reducible refine Kd.C_drewN ?_ _) | (with_reducible refine Kd.C_drew ?_))); (case side4 => exact HC1.out); rintro e w48 ⟨v184, rfl, ho0, hb⟩; have n0_ := Aside0.mk (Kd.R_below (by (with_reducible repeat (first | apply Kd.R_alloc | apply Kd.R_drewN | apply Kd.R_drew)); exact HO_9.out) hb); have n1_ := Aside0.mk (Kd.R_below (by (with_reducible repeat (first | apply Kd.R_alloc | apply Kd.R_drewN | apply Kd.R_drew)); exact HO_55.out) hb); have n2_ := Aside0.mk (Kd.S_lower ho0 (below_size (by repeat (first | (with_reducible first | exact HB.out | apply below_alloc | apply pw_below_drewN | apply below_drew1) | exact HB.out)))); have n3_ := Aside0.mk (below_step (by repeat (first | (with_reducible first | exact HB.out | apply below_alloc | apply pw_below_drewN | apply below_drew1) | exact HB.out)) hb); clear HO_9; clear HO_55; clear HB; have HO_9 := n0_; have HO_55 := n1_; have HO185 := n2_; have HB := n3_; clear n0_ n1_ n2_ n3_; (try clear hb); (try clear hb2); (try clear hk); (try clear hi); (try clear ho0); obtain ⟨Ao49, co49, eo49⟩ := Kd.S_slice HO185.out; subst eo49; have p186 : 0 ≤ (0 : Int) := (by omega); have q186 : 0 < (t183.length : Int) := of_decide_eq_true (by first | (with_reducible assumption) | assumption); obtain ⟨ad186, A186_0, c186_0, e186, hx186_0, hl186_0, hi186_0⟩ := at_L4 (Kd.S_reads' HO185.out).2.2 0 p186 q186; cases e186; obtain ⟨ce186, hce186, hMe186, hcc186⟩ := Kd.S_get HO185.out [] 0 p186 (by first | exact q186 | exact of_decide_eq_true (by first | (with_reducible assumption) | assumption) | (have e_ := (Kd.S_reads' HO185.out).1; omega)); obtain ⟨ve186_0, rfl, ge186_0⟩ := hMe186; have hv186_0 := hcc186 0 _ rfl; rw [Nat.add_zero, show ((Kd.slice 3 (Kd.int .i64))).sz = 1 from rfl, Nat.mul_one] at hv186_0; replace hv186_0 := Option.some.inj (hv186_0.symm.trans hx186_0); rw [hv186_0] at ge186_0; have HL186_0 := Aside0.mk (show Kd.R (Kd.int .i64) 3 _ _ _ _ (rd_L4 t183 0) from ge186_0); clear hv186_0 ge186_0; clear hcc186 hce186; have qi186 : (0 < t183.length) = True := eq_true (by omega); (try rw [show ((0 : Int)).toNat = 0 from rfl] at hx186_0); (try rw [Addr.add_zero'] at hx186_0); have HR186_0 := Aside0.mk hi186_0; have HC186_0 := Aside0.mk hl186_0; clear hi186_0 hl186_0; replace p186 := eq_true p186; replace q186 := eq_true q186; have p187 : 0 ≤ (0 : Int) := (by omega); have q187 : 0 < ((rd_L4 t183 0).length : Int) := of_decide_eq_true (by first | (with_reducible assumption) | assumption); obtain ⟨ad187, e187, hx187_0⟩ := Kd.at_int (by repeat (first | (with_reducible exact HR186_0.out) | (with_reducible refine Kd.C_alloc ?_ _) | (with_reducible refine Kd.C_drewN ?_ _) | (with_reducible refine Kd.C_drew ?_) | exact HR186_0.out)) 0 p187 q187; cases e187; have qi187 : (0 < (rd_L4 t183 0).length) = True := eq_true (by omega); (try rw [show ((0 : Int)).toNat = 0 from rfl] at hx187_0); (try rw [Addr.add_zero'] at hx187_0); replace p187 := eq_true p187; replace q187 := eq_true q187) | (go_at_call 9; (with_reducible refine (oriellaw27_alive.calls k3  t188 _ A47.out).mono ?_); rintro e w50 ⟨rfl, hb⟩; have n0_ := Aside0.mk (Kd.R_below (by (with_reducible repeat (first | apply Kd.R_alloc | apply Kd.R_drewN | apply Kd.R_drew)); exact HO_9.out) hb); have n1_ := Aside0.mk (Kd.R_below (by (with_reducible repeat (first | apply Kd.R_alloc | apply Kd.R_drewN | apply Kd.R_drew)); exact HO_55.out) hb); have n2_ := Aside0.mk (Kd.S_below (by (with_reducible repeat (first | apply Kd.S_alloc | apply Kd.S_drewN | apply Kd.S_drew)); exact HO185.out) hb); have n3_ := Aside0.mk (Kd.R_below (by (with_reducible repeat (first | apply Kd.R_alloc | apply Kd.R_drewN | apply Kd.R_drew)); exact HL186_0.out) hb); have n4_ := Aside0.mk (Kd.C_below (by repeat (first | (with_reducible exact HR186_0.out) | (with_reducible refine Kd.C_alloc ?_ _) | (with_reducible refine Kd.C_drewN ?_ _) | (with_reducible refine Kd.C_drew ?_) | exact HR186_0.out)) hb); have n5_ := Aside0.mk (below_step (by repeat (first | (with_reducible first | exact HB.out | apply below_alloc | apply pw_below_drewN | apply below_drew1) | exact HB.out)) hb); clear HO_9; clear HO_55; clear HO185; clear HL186_0; clear HR186_0; clear HB; have HO_9 := n0_; have HO_55 := n1_; have HO185 := n2_; have HL186_0 := n3_; have HR186_0 := n4_; have HB := n5_; clear n0_ n1_ n2_ n3_ n4_ n5_; (try clear hb); (try clear hb2); (try clear hk); (try clear hi))))
                          go_ret
                          exact ⟨by first | rfl | (simp [errW_none, errW_some] <;> rfl) | (simp [*, errW_none, errW_some] <;> rfl), below_step U1.out (by repeat (first | (with_reducible first | exact HB.out | apply below_alloc | apply pw_below_drewN | apply below_drew1) | exact HB.out))⟩
                        · rw [if_neg c46] at H
                          exact absurd H (by simp)
                      · rw [if_neg c45] at H
                        exact absurd H (by simp)
                    · rw [if_neg c44] at H
                      exact absurd H (by simp)

end Go.Proofs.YtnemooemifbbhaaDoor.PDL
