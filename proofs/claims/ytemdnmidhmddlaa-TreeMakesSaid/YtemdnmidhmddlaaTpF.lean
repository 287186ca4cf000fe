/- R.Kids, R.Below: what they answer. Conditions: as the theorems say. -/
import Derived.Test.YtemdnmidhmddlaaTpE
import Derived.Test.YtemdnmidhmddlaaPAllx12
import Derived.Test.YtemdnmidhmddlaaPAllx13
namespace Go.Proofs.Ytemdnmidhmddlaa.Tree
open Go Go.RowKit Go.Proofs.YtemdnmidhmddlaaW.PrintWords Go.Proofs.YtemdnmidhmddlaaW.PrintLast Go.Proofs.YtemdnmidhmddlaaW.PrintMore Go.Proofs.Ytemdnmidhmddlaa.PAll
set_option linter.unusedVariables false
set_option linter.unusedSimpArgs false
theorem kids_loop {rl : List S46} (n : Nat) (hl : rl.length ≤ 1000000) : ∀ (q i : Nat) (out : List Int), rl.length = i + q → out.length ≤ i → Ev (fun k => orielref06_Kids.l0 k rl (n : Int) out (i : Int)) (out ++ idxs (isUp (n : Int)) (rl.drop i) i)
  | 0, i, out, h, _ => by
    have o1 : ¬ (i : Int) < (rl.length : Int) := by omega
    have e : out ++ idxs (isUp (n : Int)) (rl.drop i) i = out := by rw [List.drop_eq_nil_of_le (by omega)]; exact List.append_nil _
    rw [e]
    exact Ev.step (f := fun _ => some out) (fun k => by rw [orielref06_Kids.l0, if_neg o1]) (Ev.now _)
  | q + 1, i, out, h, ho => by
    have hi : i < rl.length := by omega
    obtain ⟨e, he⟩ : ∃ e, rl[i]? = some e := ⟨rl[i], List.getElem?_eq_getElem hi⟩
    have o1 : (i : Int) < (rl.length : Int) := by omega
    have o2 : (0 : Int) ≤ (i : Int) := by omega
    have o3 : (n : Int) ≥ 0 := by omega
    have e3 : wrap64 ((i : Int) + 1) = ((i + 1 : Nat) : Int) := wnat (i + 1) (by omega)
    have hd : rl.drop i = e :: rl.drop (i + 1) := by
      rw [List.drop_eq_getElem_cons hi]
      rw [List.getElem?_eq_getElem hi] at he
      rw [Option.some.inj he]
    rw [hd, idxs]
    by_cases c : e.f1 = (n : Int)
    · rw [if_pos (show isUp (n : Int) e = true from decide_eq_true c)]
      have ih := kids_loop n hl q (i + 1) (out ++ [(i : Int)]) (by omega) (by rw [List.length_append]; show out.length + 1 ≤ _; omega)
      rw [List.append_assoc] at ih
      have o4 : out.length < 17592186044416 := by omega
      refine Ev.step (fun k => ?_) ih
      rw [orielref06_Kids.l0, if_pos o1, if_pos o2, rd46 he, if_pos c, if_pos o3, if_pos o4, e3]
    · rw [if_neg (show ¬ isUp (n : Int) e = true by unfold isUp; rw [decide_eq_true_iff]; exact c)]
      have ih := kids_loop n hl q (i + 1) out (by omega) (by omega)
      refine Ev.step (fun k => ?_) ih
      rw [orielref06_Kids.l0, if_pos o1, if_pos o2, rd46 he, if_neg c, e3]
theorem kids_ev {rl : List S46} (n : Nat) (hl : rl.length ≤ 1000000) : Ev (fun k => orielref06_Kids.f k rl (n : Int)) (idxs (isUp (n : Int)) rl 0) :=
  kids_loop n hl rl.length 0 [] (by omega) (Nat.le_refl _)
theorem below_loop {rl : List S46} (n : Nat) (hl : rl.length ≤ 1000000) {k : Int} {l : List Int} (h : PathR rl k l) : ∀ i : Nat, l.length + i ≤ rl.length → Ev (fun j => orielref06_Below.l0 j rl k (n : Int) (i : Int)) (decide ((n : Int) ∈ l)) := by
  induction h with
  | @nil k h1 =>
    intro i hi
    have o2 : decide (k ≥ 0) = false := decide_eq_false (by omega)
    have o3 : ¬ k = (n : Int) := by omega
    have hf : Ev (fun j => orielref06_Below.j1 j rl k (n : Int) (i : Int) false) (decide ((n : Int) ∈ ([] : List Int))) :=
      Ev.step (f := fun _ => some false) (fun j => by rw [orielref06_Below.j1, if_neg (by decide), if_neg o3]) (Ev.now _)
    refine Ev.step (fun j => ?_) hf
    rw [orielref06_Below.l0, o2]
    by_cases c : (i : Int) < (rl.length : Int)
    · rw [if_pos c]
    · rw [if_neg c]
  | @cons m e l h1 h2 ih =>
    intro i hi
    rw [List.length_cons] at hi
    have hm := (List.getElem?_eq_some_iff.mp h1).1
    have o1 : (i : Int) < (rl.length : Int) := by omega
    have o2 : decide ((m : Int) ≥ 0) = true := decide_eq_true (by omega)
    have o4 : (0 : Int) ≤ (m : Int) := by omega
    have o5 : (m : Int) < (rl.length : Int) := by omega
    have e3 : wrap64 ((i : Int) + 1) = ((i + 1 : Nat) : Int) := wnat (i + 1) (by omega)
    refine Ev.step (f := fun j => orielref06_Below.j1 j rl (m : Int) (n : Int) (i : Int) true) (fun j => by rw [orielref06_Below.l0, if_pos o1, o2]) ?_
    by_cases c : (m : Int) = (n : Int)
    · have e : decide ((n : Int) ∈ ((m : Int) :: l)) = true := decide_eq_true (by rw [c]; exact List.mem_cons_self)
      rw [e]
      exact Ev.step (f := fun _ => some true) (fun j => by rw [orielref06_Below.j1, if_pos rfl, if_pos c]) (Ev.now _)
    · have e : decide ((n : Int) ∈ ((m : Int) :: l)) = decide ((n : Int) ∈ l) := by
        rw [Bool.eq_iff_iff, decide_eq_true_iff, decide_eq_true_iff, List.mem_cons]
        exact ⟨fun h => h.resolve_left (fun q => c q.symm), Or.inr⟩
      rw [e]
      exact Ev.step (fun j => by rw [orielref06_Below.j1, if_pos rfl, if_neg c, if_pos o4, if_pos o5, rd46 h1, e3]) (ih (i + 1) (by omega))
theorem path_le {rl : List S46} (hu : UpOk rl) {k : Int} {l : List Int} (h : PathR rl k l) : ∀ q ∈ l, q ≤ k := by
  induction h with
  | nil _ => exact fun q hq => by cases hq
  | @cons m e l h1 h2 ih =>
    intro q hq
    rcases List.mem_cons.mp hq with rfl | hq
    · exact Int.le_refl _
    · have := ih q hq
      have := (hu m e h1).2
      omega
theorem Seg.row {ks : List S39} {rl : List S46} {l : List S25} {up d : Int} {m : Nat} (h : Seg ks rl l up d m) {k : Nat} (h1 : m ≤ k) (h2 : k < m + szL l) : rl[k]? = (rwL l up d m)[k - m]? := by
  obtain ⟨_, a, b, hr, ha⟩ := h
  have hl := rw_len l up d m
  rw [hr, List.getElem?_append_right (by omega), ha, List.getElem?_append_left (by omega)]
theorem below_in {ks : List S39} {rl : List S46} {n : Nat} {e : S46} (hn : Node ks rl e n) : ∀ (N k : Nat) (l : List Int), k < N → n ≤ k → k < n + szL [e.f0] → PathR rl (k : Int) l → (n : Int) ∈ l
  | 0, _, _, h, _, _, _ => absurd h (Nat.not_lt_zero _)
  | N + 1, k, l, hN, h1, h2, hp => by
    have hz := szL_one e.f0
    generalize hkk : (k : Int) = kk at hp
    cases hp with
    | nil h => omega
    | @cons m e2 l h3 h4 =>
      obtain rfl : k = m := by omega
      by_cases c : k = n
      · subst c
        exact List.mem_cons_self
      · have hrow := hn.hs.row (k := k) (by omega) (by omega)
        rw [h3] at hrow
        have hu := ups _ e.f0.f5 (n : Int) (e.f2 + 1) (n + 1) (Nat.lt_succ_self _) e2 (List.mem_of_getElem? hrow.symm)
        obtain ⟨u, hu2⟩ : ∃ u : Nat, e2.f1 = (u : Int) := ⟨e2.f1.toNat, by omega⟩
        have hlt : u < k := by
          rcases hu with hu | hu
          · omega
          · have := up_ok _ e.f0.f5 (n : Int) (e.f2 + 1) (n + 1) (Nat.lt_succ_self _) (by omega) (by omega) _ e2 hrow.symm
            omega
        rw [hu2] at h4
        exact List.mem_cons_of_mem _ (below_in hn N u l (by omega) (by omega) (by omega) h4)
theorem below_out (x : S25) {n : Nat} {e : S46} (hn : Node (knL [x] (-1) 0) (rwL [x] (-1) 1 0) e n) : ∀ (N k : Nat) (l : List Int), k < N → ¬ (n ≤ k ∧ k < n + szL [e.f0]) → PathR (rwL [x] (-1) 1 0) (k : Int) l → ¬ (n : Int) ∈ l
  | 0, _, _, h, _, _ => absurd h (Nat.not_lt_zero _)
  | N + 1, k, l, hN, h1, hp => by
    intro hm
    by_cases c : k < n
    · have := path_le (upOk_of x) hp _ hm
      omega
    · have hz := szL_one e.f0
      generalize hkk : (k : Int) = kk at hp
      cases hp with
      | nil h => cases hm
      | @cons m e2 l h3 h4 =>
        obtain rfl : k = m := by omega
        rcases List.mem_cons.mp hm with hm | hm
        · omega
        · have hu := upOk_of x k e2 h3
          by_cases c2 : e2.f1 = -1
          · rw [c2] at h4
            cases h4 with
            | nil _ => cases hm
          · obtain ⟨u, hu2⟩ : ∃ u : Nat, e2.f1 = (u : Int) := ⟨e2.f1.toNat, by omega⟩
            rw [hu2] at h4
            refine below_out x hn N u l (by omega) (fun hr => ?_) h4 hm
            obtain ⟨eu, hnu, hsz⟩ := hn.sub hr.1 hr.2
            have hk := kp_rng _ _ _ (up_kid x h3 hu2 hnu.hr)
            have := szL_one eu.f0
            omega
theorem below_ev (x : S25) (hs : szL [x] ≤ 1000000) {n : Nat} {e : S46} (hn : Node (knL [x] (-1) 0) (rwL [x] (-1) 1 0) e n) {k : Nat} (hk : k < szL [x]) : Ev (fun j => orielref06_Below.f j (rwL [x] (-1) 1 0) (k : Int) (n : Int)) (decide (n ≤ k ∧ k < n + szL [e.f0])) := by
  have hl := rw_len [x] (-1) 1 0
  obtain ⟨ek, hek⟩ : ∃ ek, (rwL [x] (-1) 1 0)[k]? = some ek := ⟨_, List.getElem?_eq_getElem (by omega)⟩
  obtain ⟨l, p1, _, _, p4⟩ := path_ex x _ k ek (Nat.lt_succ_self _) hek
  have h := below_loop n (by omega) p1 0 (by omega)
  have e1 : decide ((n : Int) ∈ l) = decide (n ≤ k ∧ k < n + szL [e.f0]) := by
    rw [Bool.eq_iff_iff, decide_eq_true_iff, decide_eq_true_iff]
    constructor
    · intro hm
      exact Decidable.byContradiction fun hc => below_out x hn _ k l (Nat.lt_succ_self _) hc p1 hm
    · intro hc
      exact below_in hn _ k l (Nat.lt_succ_self _) hc.1 hc.2 p1
  rw [e1] at h
  exact h
end Go.Proofs.Ytemdnmidhmddlaa.Tree
