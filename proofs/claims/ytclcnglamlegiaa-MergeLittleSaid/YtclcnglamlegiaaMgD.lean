/- Few files, few steps; lists of changes that are the same; the chapter's example. Plain theorems; no condition but those of each theorem. -/
import Derived.Test.YtclcnglamlegiaaMgC
import Derived.Test.YtclcnglamlegiaaPMLx3
import Derived.Test.YtclcnglamlegiaaPMLx4
import Derived.Test.YtclcnglamlegiaaPMLx14
import Derived.Test.YtclcnglamlegiaaPMLx15
import Derived.KernelRfl
namespace Go.Proofs.Ytclcnglamlegiaa.Mg
open Go Go.RowKit Go.Proofs.YtclcnglamlegiaaW.PrintWords Go.Proofs.YtclcnglamlegiaaW.PrintLast Go.Proofs.YtclcnglamlegiaaW.PrintMore Go.Proofs.Ytclcnglamlegiaa.PML
open Go.Proofs.Ytclcnglamlegiaa.Trial (ofl eof)
set_option linter.unusedVariables false
set_option linter.unusedSimpArgs false
theorem mn_range (x c : Int) (h : 0 ≤ x) (hc : 0 ≤ c) : 0 ≤ mn x c ∧ mn x c ≤ c ∧ (mn x c < c → mn x c = x) := by unfold mn; split <;> omega
/-! ### few files -/
theorem few_l0 (l : List S36) (hl : l.length ≤ 9223372036854775807) : ∀ (r pre : List S36) (n : Int), l = pre ++ r → pre.length ≤ 5 → 0 ≤ n → n ≤ 10000 * pre.length →
    ∃ b, Ev (fun k => orielref10_Few.l0 k l n (pre.length : Int)) b ∧ (b = true → l.length ≤ 4 ∧ n ≤ 1500 ∧ ∀ x ∈ r, x.f1.size ≤ 1500) := by
  intro r
  induction r with
  | nil =>
    intro pre n he hp h0 hn
    simp only [List.append_nil] at he
    subst he
    have q1 : ¬ ((l.length : Int) < (l.length : Int)) := Int.lt_irrefl _
    by_cases h4 : (l.length : Int) ≤ 4
    · refine ⟨decide (n ≤ 1500), Ev.step (f := fun _ => some (decide (n ≤ 1500))) (fun k => by rw [orielref10_Few.l0, if_neg q1, if_pos h4]) (Ev.now _), fun h => ?_⟩
      have := of_decide_eq_true h
      exact ⟨by omega, this, fun x hx => by cases hx⟩
    · exact ⟨false, Ev.step (f := fun _ => some false) (fun k => by rw [orielref10_Few.l0, if_neg q1, if_neg h4]) (Ev.now _), fun h => by cases h⟩
  | cons x r ih =>
    intro pre n he hp h0 hn
    have hlen : l.length = pre.length + 1 + r.length := by rw [he]; simp only [List.length_append, List.length_cons]; omega
    have q1 : (pre.length : Int) < (l.length : Int) := by omega
    have hrd : rd_T36 l (pre.length : Int) = x := by rw [he]; exact rd36 pre x r
    by_cases h4 : (pre.length : Int) ≤ 4
    · have q3 : (0 : Int) ≤ (pre.length : Int) := Int.natCast_nonneg _
      have m1 := mn_range (x.f1.size : Int) 5000 (Int.natCast_nonneg _) (by decide)
      have m2 := mn_range (x.f0.size : Int) 5000 (Int.natCast_nonneg _) (by decide)
      obtain ⟨u, hu⟩ : ∃ u, u = mn (x.f1.size : Int) 5000 := ⟨_, rfl⟩
      obtain ⟨v, hv⟩ : ∃ v, v = mn (x.f0.size : Int) 5000 := ⟨_, rfl⟩
      rw [← hu] at m1
      rw [← hv] at m2
      have w1 : wrap64 (n + u) = n + u := wid (by omega) (by omega)
      have w2 : wrap64 (n + u + v) = n + u + v := wid (by omega) (by omega)
      obtain ⟨b, hb1, hb2⟩ := ih (pre ++ [x]) (n + u + v) (by rw [he]; simp) (by simp; omega) (by omega) (by simp only [List.length_append, List.length_cons, List.length_nil]; omega)
      refine ⟨b, Ev.step (fun k => ?_) hb1, fun h => ?_⟩
      · rw [orielref10_Few.l0, if_pos q1, if_pos h4, if_pos q3, hrd, ← hu, ← hv, w1, w2, wsucc pre.length (by omega), List.length_append]
        rfl
      · obtain ⟨g1, g2, g3⟩ := hb2 h
        refine ⟨g1, by omega, fun y hy => ?_⟩
        rcases List.mem_cons.mp hy with rfl | hy
        · have := m1.2.2 (by omega)
          omega
        · exact g3 y hy
    · have q4 : ¬ ((l.length : Int) ≤ 4) := by omega
      exact ⟨false, Ev.step (f := fun _ => some false) (fun k => by rw [orielref10_Few.l0, if_pos q1, if_neg h4, if_neg q4]) (Ev.now _), fun h => by cases h⟩
theorem few_ev (l : List S36) (hl : l.length ≤ 9223372036854775807) : ∃ b, Ev (fun k => orielref10_Few.f k l) b ∧ (b = true → fits 1500 l) := by
  obtain ⟨b, h1, h2⟩ := few_l0 l hl l [] 0 rfl (by decide) (Int.le_refl _) (by simp)
  exact ⟨b, h1, fun h => ⟨(h2 h).1, fun x hx => by have := (h2 h).2.2 x hx; omega⟩⟩
/-! ### few steps -/
def tmJ : Nat → List S34 → Int
  | _, [] => 0
  | j, x :: u => if j ≤ 40 then mn (x.f3.size : Int) 5000 + tmJ (j + 1) u else 0
theorem tmJ_range : ∀ (u : List S34) (j : Nat), 0 ≤ tmJ j u ∧ (j ≤ 41 → tmJ j u ≤ 5000 * (41 - j))
  | [], j => ⟨Int.le_refl _, fun h => by rw [tmJ]; omega⟩
  | x :: u, j => by
    have m := mn_range (x.f3.size : Int) 5000 (Int.natCast_nonneg _) (by decide)
    obtain ⟨h1, h2⟩ := tmJ_range u (j + 1)
    rw [tmJ]
    by_cases c : j ≤ 40
    · rw [if_pos c]
      have := h2 (by omega)
      exact ⟨by omega, fun _ => by omega⟩
    · rw [if_neg c]
      exact ⟨Int.le_refl _, fun _ => by omega⟩
theorem tmJ_txt : ∀ (u : List S34) (j : Nat), j + u.length ≤ 40 → tmJ j u < 5000 → tmJ j u = txt u
  | [], j, _, _ => rfl
  | x :: u, j, h, h5 => by
    rw [List.length_cons] at h
    have m := mn_range (x.f3.size : Int) 5000 (Int.natCast_nonneg _) (by decide)
    have h1 := (tmJ_range u (j + 1)).1
    rw [tmJ, if_pos (by omega)] at h5 ⊢
    have h2 := tmJ_txt u (j + 1) (by omega) (by omega)
    rw [h2, m.2.2 (by omega)]
    simp [txt]
theorem sfew_l1 (s : List (List S34)) (i : Nat) (hi : i < s.length) (hi6 : i ≤ 6) (L : List S34) (hL : rd_L4 s (i : Int) = L) (kk : Int) (b : Bool) : ∀ (u : List S34) (j : Nat) (n : Int), L.drop j = u → j ≤ 41 → 0 ≤ n → n ≤ 5000 * j + 10000000 →
    Ev (fun k => orielref35_Few.l0 k s (n + tmJ j u) kk (((i + 1 : Nat) : Int))) b → Ev (fun k => orielref35_Few.l1 k s n kk (i : Int) (j : Int)) b := by
  have q1 : (0 : Int) ≤ (i : Int) := Int.natCast_nonneg _
  have q2 : (i : Int) < (s.length : Int) := by omega
  intro u
  induction u with
  | nil =>
    intro j n h hj h0 hn H
    have hjl := List.drop_eq_nil_iff.mp h
    have q3 : ¬ ((j : Int) < (L.length : Int)) := by omega
    rw [tmJ, Int.add_zero] at H
    refine Ev.step (fun k => ?_) H
    rw [orielref35_Few.l1, if_pos q1, if_pos q2, hL, if_neg q3, wsucc i (by omega)]
  | cons x u ih =>
    intro j n h hj h0 hn H
    have hjl : j < L.length := by
      have := congrArg List.length h
      rw [List.length_drop, List.length_cons] at this
      omega
    have q3 : (j : Int) < (L.length : Int) := by omega
    rw [tmJ] at H
    by_cases c : j ≤ 40
    · rw [if_pos c] at H
      have q4 : (j : Int) ≤ 40 := by omega
      have q5 : (0 : Int) ≤ (j : Int) := Int.natCast_nonneg _
      have e : rd_T34 L (j : Int) = x := by
        have := List.drop_eq_getElem_cons hjl
        rw [h] at this
        injection this with e _
        unfold rd_T34
        rw [List.getD_eq_getElem?_getD, Int.toNat_natCast, List.getElem?_eq_getElem hjl, ← e]
        rfl
      have m := mn_range (x.f3.size : Int) 5000 (Int.natCast_nonneg _) (by decide)
      refine Ev.step (fun k => ?_) (ih (j + 1) (n + mn (x.f3.size : Int) 5000) (drop_next h) (by omega) (by omega) (by omega) (by rw [Int.add_assoc]; exact H))
      rw [orielref35_Few.l1, if_pos q1, if_pos q2, hL, if_pos q3, if_pos q4, if_pos q5, e, wid (x := n + mn (x.f3.size : Int) 5000) (by omega) (by omega), wsucc j (by omega)]
    · rw [if_neg c, Int.add_zero] at H
      have q4 : ¬ ((j : Int) ≤ 40) := by omega
      refine Ev.step (fun k => ?_) H
      rw [orielref35_Few.l1, if_pos q1, if_pos q2, hL, if_pos q3, if_neg q4, wsucc i (by omega)]
def tms : List (List S34) → Int
  | [] => 0
  | L :: r => tmJ 0 L + tms r
def kks : List (List S34) → Int
  | [] => 0
  | L :: r => mn (L.length : Int) 100 + kks r
theorem tms_nonneg : ∀ r, 0 ≤ tms r
  | [] => Int.le_refl _
  | L :: r => by have := tms_nonneg r; have := (tmJ_range L 0).1; rw [tms]; omega
theorem kks_nonneg : ∀ r, 0 ≤ kks r
  | [] => Int.le_refl _
  | L :: r => by have := kks_nonneg r; have := (mn_range (L.length : Int) 100 (Int.natCast_nonneg _) (by decide)).1; rw [kks]; omega
theorem sfew_l0 (s : List (List S34)) (hs : s.length ≤ 9223372036854775807) : ∀ (r pre : List (List S34)) (n kk : Int), s = pre ++ r → pre.length ≤ 7 → 0 ≤ n → n ≤ 205000 * pre.length → 0 ≤ kk → kk ≤ 100 * pre.length →
    ∃ b, Ev (fun k => orielref35_Few.l0 k s n kk (pre.length : Int)) b ∧ (b = true → s.length ≤ 6 ∧ n + tms r ≤ 600 ∧ kk + kks r ≤ 40) := by
  intro r
  induction r with
  | nil =>
    intro pre n kk he hp h0 hn k0 hk
    simp only [List.append_nil] at he
    subst he
    have q1 : ¬ ((s.length : Int) < (s.length : Int)) := Int.lt_irrefl _
    have hstep : ∀ k, orielref35_Few.l0 (k + 1) s n kk (s.length : Int) = orielref35_Few.j1 k s n kk (s.length : Int) false := fun k => by rw [orielref35_Few.l0, if_neg q1]
    have hf : ¬ (false = true) := by decide
    by_cases c6 : (s.length : Int) ≤ 6
    · by_cases c : n ≤ 600
      · refine ⟨decide (kk ≤ 40), Ev.step hstep (Ev.step (f := fun _ => some (decide (kk ≤ 40))) (fun k => by rw [orielref35_Few.j1, if_neg hf, if_pos c6, if_pos c]) (Ev.now _)), fun h => ?_⟩
        have := of_decide_eq_true h
        rw [tms, kks]
        exact ⟨by omega, by omega, by omega⟩
      · exact ⟨false, Ev.step hstep (Ev.step (f := fun _ => some false) (fun k => by rw [orielref35_Few.j1, if_neg hf, if_pos c6, if_neg c]) (Ev.now _)), fun h => by cases h⟩
    · exact ⟨false, Ev.step hstep (Ev.step (f := fun _ => some false) (fun k => by rw [orielref35_Few.j1, if_neg hf, if_neg c6]) (Ev.now _)), fun h => by cases h⟩
  | cons L r ih =>
    intro pre n kk he hp h0 hn k0 hk
    have hlen : s.length = pre.length + 1 + r.length := by rw [he]; simp only [List.length_append, List.length_cons]; omega
    have q1 : (pre.length : Int) < (s.length : Int) := by omega
    have hrd : rd_L4 s (pre.length : Int) = L := by rw [he]; exact rdL4 pre L r
    by_cases c6 : (pre.length : Int) ≤ 6
    · have m := mn_range (L.length : Int) 100 (Int.natCast_nonneg _) (by decide)
      have tr := tmJ_range L 0
      have tr2 := tr.2 (by decide)
      obtain ⟨b, hb1, hb2⟩ := ih (pre ++ [L]) (n + tmJ 0 L) (kk + mn (L.length : Int) 100) (by rw [he]; simp) (by simp; omega) (by omega) (by simp only [List.length_append, List.length_cons, List.length_nil]; omega) (by omega) (by simp only [List.length_append, List.length_cons, List.length_nil]; omega)
      rw [List.length_append] at hb1
      have hl1 := sfew_l1 s pre.length (by omega) (by omega) L hrd (kk + mn (L.length : Int) 100) b L 0 n rfl (by decide) h0 (by omega) hb1
      refine ⟨b, Ev.step (f := fun k => orielref35_Few.j1 k s n kk (pre.length : Int) true) (fun k => by rw [orielref35_Few.l0, if_pos q1, decide_eq_true c6]) (Ev.step (fun k => ?_) hl1), fun h => ?_⟩
      · rw [orielref35_Few.j1, if_pos rfl, if_pos (Int.natCast_nonneg _), if_pos q1, hrd, wid (x := kk + mn (L.length : Int) 100) (by omega) (by omega)]
        rfl
      · obtain ⟨g1, g2, g3⟩ := hb2 h
        rw [tms, kks]
        exact ⟨g1, by omega, by omega⟩
    · have q6 : ¬ ((s.length : Int) ≤ 6) := by omega
      have hf : ¬ (false = true) := by decide
      exact ⟨false, Ev.step (f := fun k => orielref35_Few.j1 k s n kk (pre.length : Int) false) (fun k => by rw [orielref35_Few.l0, if_pos q1, decide_eq_false c6]) (Ev.step (f := fun _ => some false) (fun k => by rw [orielref35_Few.j1, if_neg hf, if_neg q6]) (Ev.now _)), fun h => by cases h⟩
theorem kks_mem : ∀ (r : List (List S34)), kks r ≤ 40 → ∀ L ∈ r, L.length ≤ 40
  | [], _, L, h => by cases h
  | M :: r, hk, L, h => by
    have m := mn_range (M.length : Int) 100 (Int.natCast_nonneg _) (by decide)
    have k0 := kks_nonneg r
    rw [kks] at hk
    rcases List.mem_cons.mp h with rfl | h
    · have := m.2.2 (by omega)
      omega
    · exact kks_mem r (by omega) L h
theorem tms_txts : ∀ (r : List (List S34)), (∀ L ∈ r, L.length ≤ 40) → tms r ≤ 600 → txts r = tms r
  | [], _, _ => rfl
  | L :: r, h, ht => by
    have t0 := tms_nonneg r
    have t1 := (tmJ_range L 0).1
    rw [tms] at ht ⊢
    rw [txts_cons, tms_txts r (fun M hM => h M (List.mem_cons_of_mem _ hM)) (by omega)]
    have := h L List.mem_cons_self
    rw [tmJ_txt L 0 (by omega) (by omega)]
/-- Few steps: at most six lists, of forty changes and 600 bytes together. -/
def sfits (s : List (List S34)) : Prop := s.length ≤ 6 ∧ (∀ L ∈ s, L.length ≤ 40) ∧ txts s ≤ 600
theorem sfew_ev (s : List (List S34)) (hs : s.length ≤ 9223372036854775807) : ∃ b, Ev (fun k => orielref35_Few.f k s) b ∧ (b = true → sfits s) := by
  obtain ⟨b, h1, h2⟩ := sfew_l0 s hs s [] 0 0 rfl (by decide) (Int.le_refl _) (by simp) (Int.le_refl _) (by simp)
  refine ⟨b, h1, fun h => ?_⟩
  obtain ⟨g1, g2, g3⟩ := h2 h
  have hm := kks_mem s (by omega)
  exact ⟨g1, hm, by rw [tms_txts s hm (by omega)]; omega⟩
/-! ### the same changes -/
theorem Changes_l0 (l : List S34) (hl : l.length ≤ 1000000) : ∀ (d i : Nat), i + d = l.length → Ev (fun k => orielref18_Changes.l0 k l l (i : Int)) true := by
  intro d
  induction d with
  | zero =>
    intro i h
    have q1 : ¬ ((i : Int) < (l.length : Int)) := by omega
    refine Ev.step (f := fun _ => some true) (fun k => ?_) (Ev.now _)
    rw [orielref18_Changes.l0, if_neg q1]
  | succ d ih =>
    intro i h
    have q1 : (i : Int) < (l.length : Int) := by omega
    have q2 : (0 : Int) ≤ (i : Int) := Int.natCast_nonneg _
    refine Ev.step (fun k => ?_) (ih (i + 1) (by omega))
    rw [orielref18_Changes.l0, if_pos q1, if_pos q2, if_pos q1, if_neg (by simp), wsucc i (by omega)]
theorem Changes_ev (l : List S34) (hl : l.length ≤ 1000000) : Ev (fun k => orielref18_Changes.f k l l) true := by
  unfold orielref18_Changes.f
  exact Ev.ite_pos rfl (Changes_l0 l hl l.length 0 (by omega))
/-! ### the example -/
def exF : List S36 := [(⟨(⟨#[97]⟩ : ByteArray), (⟨#[118, 97, 108, 32, 120, 32, 61, 32, 49]⟩ : ByteArray)⟩ : S36)]
def exS : List (List S34) := [([(⟨0, 4, 5, (⟨#[121]⟩ : ByteArray)⟩ : S34)] : List S34), ([(⟨0, 8, 9, (⟨#[50]⟩ : ByteArray)⟩ : S34)] : List S34)]
def exL : List S34 := [(⟨0, 4, 9, (⟨#[121, 32, 61, 32, 50]⟩ : ByteArray)⟩ : S34)]
theorem ex_ok : okT (eachS exF exS 0).2.2 := by decide +kernel
theorem ex_net : netS 0 exF (eachS exF exS 0).1 = exL := by kernel_rfl
theorem alive_ev : Ev (fun k => oriellaw35_alive.f k) true := by
  have h := Net_ev exF exS (by decide) (by decide) 9 (by unfold fits; decide) (by decide)
  rw [if_pos ex_ok, ex_net] at h
  unfold oriellaw35_alive.f
  refine Ev.bind (f := fun k t => _) h ?_
  refine Ev.ite_pos rfl (Ev.ite_pos (by decide) ?_)
  exact Ev.bind (f := fun k t => some t) (Changes_ev exL (by decide)) (Ev.now _)
end Go.Proofs.Ytclcnglamlegiaa.Mg
