/- How the nodes of a tree stand to one another: kids, the next one, what lies above and below. Conditions: as the theorems say. -/
import Derived.Test.YtemdnmidhmddlaaTpC
import Derived.Test.YtemdnmidhmddlaaTrE
namespace Go.Proofs.Ytemdnmidhmddlaa.Tree
open Go Go.RowKit Go.Proofs.YtemdnmidhmddlaaW.PrintWords Go.Proofs.YtemdnmidhmddlaaW.PrintLast Go.Proofs.YtemdnmidhmddlaaW.PrintMore Go.Proofs.Ytemdnmidhmddlaa.PAll
set_option linter.unusedVariables false
set_option linter.unusedSimpArgs false
theorem node_at {ks : List S39} {rl : List S46} : ∀ (N : Nat) (l : List S25) (up d : Int) (m : Nat), SizeOf.sizeOf l < N → Seg ks rl l up d m → ∀ n, m ≤ n → n < m + szL l → ∃ e, Node ks rl e n ∧ n + szL [e.f0] ≤ m + szL l
  | 0, _, _, _, _, h, _, _, _, _ => absurd h (Nat.not_lt_zero _)
  | N + 1, [], _, _, m, _, _, n, h1, h2 => by rw [szL_nil] at h2; omega
  | N + 1, x :: r, up, d, m, hN, h, n, h1, h2 => by
    obtain ⟨hk, hn, hs⟩ := h.cons
    have z1 := szk x r
    have z2 := szr x r
    have hz := szL_cons x r
    by_cases c1 : n = m
    · subst c1
      exact ⟨_, hn, by show n + szL [x] ≤ _; rw [szL_one]; omega⟩
    · by_cases c2 : n < m + 1 + szL x.f5
      · obtain ⟨e, he, hb⟩ := node_at N x.f5 (m : Int) (d + 1) (m + 1) (by omega) hn.hs n (by omega) (by omega)
        exact ⟨e, he, by omega⟩
      · obtain ⟨e, he, hb⟩ := node_at N r up d _ (by omega) hs n (by omega) (by omega)
        exact ⟨e, he, by omega⟩
theorem Node.sub {ks : List S39} {rl : List S46} {e : S46} {n : Nat} (h : Node ks rl e n) {u : Nat} (h1 : n ≤ u) (h2 : u < n + szL [e.f0]) : ∃ e2, Node ks rl e2 u ∧ u + szL [e2.f0] ≤ n + szL [e.f0] := by
  have hz := szL_one e.f0
  by_cases c : u = n
  · subst c
    exact ⟨e, h, Nat.le_refl _⟩
  · obtain ⟨e2, h3, h4⟩ := node_at _ e.f0.f5 (n : Int) (e.f2 + 1) (n + 1) (Nat.lt_succ_self _) h.hs u (by omega) (by omega)
    exact ⟨e2, h3, by omega⟩
theorem nm_rw : ∀ (N : Nat) (l : List S25) (up d : Int) (m : Nat), SizeOf.sizeOf l < N → nmL l = (rwL l up d m).map (fun e => e.f0.f4)
  | 0, _, _, _, _, h => absurd h (Nat.not_lt_zero _)
  | N + 1, [], _, _, _, _ => by rw [nmL_nil, rwL_nil]; rfl
  | N + 1, x :: r, up, d, m, hN => by
    have z1 := szk x r
    have z2 := szr x r
    rw [nmL_cons, rwL_cons, List.map_cons, List.map_append, ← nm_rw N x.f5 _ _ _ (by omega), ← nm_rw N r _ _ _ (by omega)]
/-! ### kids -/
def idxs (p : S46 → Bool) : List S46 → Nat → List Int
  | [], _ => []
  | e :: r, i => if p e = true then (i : Int) :: idxs p r (i + 1) else idxs p r (i + 1)
theorem idxs_app (p : S46 → Bool) : ∀ (a b : List S46) (i : Nat), idxs p (a ++ b) i = idxs p a i ++ idxs p b (i + a.length)
  | [], b, i => rfl
  | e :: a, b, i => by
    rw [List.cons_append, idxs, idxs, idxs_app p a b, List.length_cons, show i + 1 + a.length = i + (a.length + 1) by omega]
    by_cases c : p e = true
    · rw [if_pos c, if_pos c, List.cons_append]
    · rw [if_neg c, if_neg c]
theorem idxs_none {p : S46 → Bool} : ∀ (l : List S46) (i : Nat), (∀ e ∈ l, p e = false) → idxs p l i = []
  | [], _, _ => rfl
  | e :: r, i, h => by
    rw [idxs, if_neg (by rw [h e List.mem_cons_self]; decide), idxs_none r _ (fun x hx => h x (List.mem_cons_of_mem _ hx))]
theorem mem_idxs {p : S46 → Bool} : ∀ (l : List S46) (i : Nat) (k : Int), k ∈ idxs p l i ↔ ∃ j e, k = ((i + j : Nat) : Int) ∧ l[j]? = some e ∧ p e = true
  | [], i, k => by
    constructor
    · intro h; cases h
    · rintro ⟨j, e, _, h, _⟩; cases h
  | e :: r, i, k => by
    have ih := mem_idxs (p := p) r (i + 1) k
    have tail : (∃ j e2, k = ((i + 1 + j : Nat) : Int) ∧ r[j]? = some e2 ∧ p e2 = true) → ∃ j e2, k = ((i + j : Nat) : Int) ∧ (e :: r)[j]? = some e2 ∧ p e2 = true := by
      rintro ⟨j, e2, h1, h2, h3⟩
      exact ⟨j + 1, e2, by omega, by rw [List.getElem?_cons_succ]; exact h2, h3⟩
    rw [idxs]
    constructor
    · intro h
      by_cases c : p e = true
      · rw [if_pos c] at h
        rcases List.mem_cons.mp h with rfl | h
        · exact ⟨0, e, rfl, rfl, c⟩
        · exact tail (ih.mp h)
      · rw [if_neg c] at h
        exact tail (ih.mp h)
    · rintro ⟨j, e2, h1, h2, h3⟩
      cases j with
      | zero =>
        rw [List.getElem?_cons_zero] at h2
        obtain rfl := Option.some.inj h2
        rw [if_pos h3, h1]
        exact List.mem_cons_self
      | succ j =>
        rw [List.getElem?_cons_succ] at h2
        have := ih.mpr ⟨j, e2, by omega, h2, h3⟩
        by_cases c : p e = true
        · rw [if_pos c]; exact List.mem_cons_of_mem _ this
        · rw [if_neg c]; exact this
def isUp (u : Int) (e : S46) : Bool := decide (e.f1 = u)
theorem ups : ∀ (N : Nat) (l : List S25) (up d : Int) (m : Nat), SizeOf.sizeOf l < N → ∀ e ∈ rwL l up d m, e.f1 = up ∨ ((m : Int) ≤ e.f1 ∧ e.f1 < ((m + szL l : Nat) : Int))
  | 0, _, _, _, _, h, _, _ => absurd h (Nat.not_lt_zero _)
  | N + 1, [], _, _, _, _, e, he => by rw [rwL_nil] at he; cases he
  | N + 1, x :: r, up, d, m, hN, e, he => by
    have z1 := szk x r
    have z2 := szr x r
    have hz := szL_cons x r
    rw [rwL_cons] at he
    rcases List.mem_cons.mp he with rfl | he
    · exact Or.inl rfl
    · rcases List.mem_append.mp he with he | he
      · rcases ups N x.f5 (m : Int) (d + 1) (m + 1) (by omega) e he with h | h
        · exact Or.inr (by omega)
        · exact Or.inr (by omega)
      · rcases ups N r up d _ (by omega) e he with h | h
        · exact Or.inl h
        · exact Or.inr (by omega)
theorem kidsA : ∀ (N : Nat) (l : List S25) (up d : Int) (m : Nat), SizeOf.sizeOf l < N → up < (m : Int) → idxs (isUp up) (rwL l up d m) m = kpL l m
  | 0, _, _, _, _, h, _ => absurd h (Nat.not_lt_zero _)
  | N + 1, [], _, _, _, _, _ => by rw [rwL_nil]; rfl
  | N + 1, x :: r, up, d, m, hN, hu => by
    have z1 := szk x r
    have z2 := szr x r
    rw [rwL_cons, idxs, if_pos (show isUp up ⟨x, up, d⟩ = true from decide_eq_true rfl), idxs_app, idxs_none (p := isUp up) (rwL x.f5 (m : Int) (d + 1) (m + 1)) _ (fun e he => decide_eq_false (fun h => by
      rcases ups _ x.f5 (m : Int) (d + 1) (m + 1) (Nat.lt_succ_self _) e he with h2 | h2 <;> omega)), List.nil_append, rw_len, kidsA N r up d _ (by omega) (by omega)]
    rfl
theorem kidsB : ∀ (N : Nat) (l : List S25) (up d : Int) (m : Nat), SizeOf.sizeOf l < N → up < (m : Int) → ∀ (n : Nat) (e : S46), m ≤ n → (rwL l up d m)[n - m]? = some e → idxs (isUp (n : Int)) (rwL l up d m) m = kpL e.f0.f5 (n + 1)
  | 0, _, _, _, _, h, _, _, _, _, _ => absurd h (Nat.not_lt_zero _)
  | N + 1, [], _, _, _, _, _, _, e, _, he => by rw [rwL_nil] at he; cases he
  | N + 1, x :: r, up, d, m, hN, hu, n, e, h1, he => by
    have z1 := szk x r
    have z2 := szr x r
    have hl := rw_len x.f5 (m : Int) (d + 1) (m + 1)
    rw [rwL_cons] at he ⊢
    rw [idxs, if_neg (by unfold isUp; rw [decide_eq_true_iff]; show ¬ up = _; omega), idxs_app, hl]
    by_cases c1 : n = m
    · subst c1
      rw [Nat.sub_self, List.getElem?_cons_zero] at he
      obtain rfl := Option.some.inj he
      rw [kidsA _ x.f5 (n : Int) (d + 1) (n + 1) (Nat.lt_succ_self _) (by omega), idxs_none (p := isUp (n : Int)) (rwL r up d _) _ (fun e he => decide_eq_false (fun h => by
        rcases ups _ r up d _ (Nat.lt_succ_self _) e he with h2 | h2 <;> omega)), List.append_nil]
    · obtain ⟨j, rfl⟩ : ∃ j, n = m + 1 + j := ⟨n - m - 1, by omega⟩
      rw [show m + 1 + j - m = j + 1 by omega, List.getElem?_cons_succ] at he
      by_cases c2 : j < szL x.f5
      · rw [List.getElem?_append_left (by omega)] at he
        rw [kidsB N x.f5 (m : Int) (d + 1) (m + 1) (by omega) (by omega) (m + 1 + j) e (by omega) (by rw [show m + 1 + j - (m + 1) = j by omega]; exact he), idxs_none (p := isUp ((m + 1 + j : Nat) : Int)) (rwL r up d _) _ (fun e he => decide_eq_false (fun h => by
          rcases ups _ r up d _ (Nat.lt_succ_self _) e he with h2 | h2 <;> omega)), List.append_nil]
      · rw [List.getElem?_append_right (by omega), hl] at he
        rw [kidsB N r up d (m + 1 + szL x.f5) (by omega) (by omega) (m + 1 + j) e (by omega) (by rw [show m + 1 + j - (m + 1 + szL x.f5) = j - szL x.f5 by omega]; exact he), idxs_none (p := isUp ((m + 1 + j : Nat) : Int)) (rwL x.f5 (m : Int) (d + 1) (m + 1)) _ (fun e he => decide_eq_false (fun h => by
          rcases ups _ x.f5 (m : Int) (d + 1) (m + 1) (Nat.lt_succ_self _) e he with h2 | h2 <;> omega)), List.nil_append]
theorem kids_at (x : S25) {n : Nat} {e : S46} (h : (rwL [x] (-1) 1 0)[n]? = some e) : idxs (isUp (n : Int)) (rwL [x] (-1) 1 0) 0 = kpL e.f0.f5 (n + 1) :=
  kidsB _ [x] (-1) 1 0 (Nat.lt_succ_self _) (by omega) n e (Nat.zero_le _) h
theorem kp_rng : ∀ (l : List S25) (m : Nat), ∀ k ∈ kpL l m, (m : Int) ≤ k ∧ k < ((m + szL l : Nat) : Int)
  | [], _, _, h => by cases h
  | x :: r, m, k, h => by
    have hz := szL_cons x r
    rw [kpL] at h
    rcases List.mem_cons.mp h with rfl | h
    · omega
    · have := kp_rng r _ k h
      omega
theorem kp_inc : ∀ (l : List S25) (m : Nat), (kpL l m).Pairwise (fun a b => a < b)
  | [], _ => .nil
  | x :: r, m => by
    rw [kpL]
    refine .cons (fun k hk => ?_) (kp_inc r _)
    have := kp_rng r _ k hk
    omega
/-- The row of the parent, told by the kids' rows. -/
theorem up_kid (x : S25) {n u : Nat} {e eu : S46} (h : (rwL [x] (-1) 1 0)[n]? = some e) (hu : e.f1 = (u : Int)) (h2 : (rwL [x] (-1) 1 0)[u]? = some eu) : (n : Int) ∈ kpL eu.f0.f5 (u + 1) := by
  rw [← kids_at x h2, mem_idxs]
  exact ⟨n, e, by rw [Nat.zero_add], h, decide_eq_true hu⟩
/-! ### the next one -/
def nxt (n : Int) : List Int → Int → Int
  | [], v => v
  | m :: r, v => nxt n r (if m > n ∧ v < 0 then m else v)
theorem nxt_set (n : Int) : ∀ (l : List Int) (v : Int), 0 ≤ v → nxt n l v = v
  | [], _, _ => rfl
  | m :: r, v, h => by rw [nxt, if_neg (by omega), nxt_set n r v h]
theorem nxt_eq {ks : List S39} {k : Int} {l : List Int} (h : ChainK ks k l) : l.Pairwise (fun a b => a < b) → ∀ n ∈ l, nxt n l (-1) = (rd_T39 ks n).f6 := by
  induction h with
  | nil => exact fun _ n hn => by cases hn
  | @cons k l h1 h2 ih =>
    intro hp n hn
    obtain ⟨hp1, hp2⟩ := List.pairwise_cons.mp hp
    rcases List.mem_cons.mp hn with rfl | hn
    · rw [nxt, if_neg (by omega)]
      generalize (rd_T39 ks n).f6 = k2 at h2 ⊢
      cases h2 with
      | nil => rfl
      | cons h3 h4 =>
        have g1 := hp1 k2 List.mem_cons_self
        have g2 := hasB_t h3
        rw [nxt, if_pos ⟨g1, by omega⟩, nxt_set _ _ _ g2.1]
    · have := hp1 n hn
      rw [nxt, if_neg (by omega), ih hp2 n hn]
/-! ### what lies above -/
theorem deep_at {ks : List S39} {rl : List S46} : ∀ (N : Nat) (l : List S25) (up d : Int) (m : Nat), SizeOf.sizeOf l < N → Seg ks rl l up d m → ∀ n, m ≤ n → n < m + szL l → ∀ e, rl[n]? = some e → (e.f1 = up ∧ e.f2 = d) ∨ ∃ (u : Nat) (e2 : S46), e.f1 = (u : Int) ∧ u < n ∧ rl[u]? = some e2 ∧ e.f2 = e2.f2 + 1
  | 0, _, _, _, _, h, _, _, _, _, _, _ => absurd h (Nat.not_lt_zero _)
  | N + 1, [], _, _, m, _, _, n, h1, h2, _, _ => by rw [szL_nil] at h2; omega
  | N + 1, x :: r, up, d, m, hN, h, n, h1, h2, e, he => by
    obtain ⟨hk, hn, hs⟩ := h.cons
    have z1 := szk x r
    have z2 := szr x r
    have hz := szL_cons x r
    by_cases c1 : n = m
    · subst c1
      rw [hn.hr] at he
      obtain rfl := Option.some.inj he
      exact Or.inl ⟨rfl, rfl⟩
    · by_cases c2 : n < m + 1 + szL x.f5
      · rcases deep_at N x.f5 (m : Int) (d + 1) (m + 1) (by omega) hn.hs n (by omega) (by omega) e he with ⟨g1, g2⟩ | g
        · exact Or.inr ⟨m, _, g1, by omega, hn.hr, g2⟩
        · exact Or.inr g
      · exact deep_at N r up d _ (by omega) hs n (by omega) (by omega) e he
/-- A row and those above it. -/
inductive PathR (rl : List S46) : Int → List Int → Prop
  | nil {n : Int} : n < 0 → PathR rl n []
  | cons {n : Nat} {e : S46} {l : List Int} : rl[n]? = some e → PathR rl e.f1 l → PathR rl (n : Int) ((n : Int) :: l)
theorem path_ex (x : S25) : ∀ (N n : Nat) (e : S46), n < N → (rwL [x] (-1) 1 0)[n]? = some e → ∃ l, PathR (rwL [x] (-1) 1 0) (n : Int) l ∧ PathK (knL [x] (-1) 0) (n : Int) l ∧ (l.length : Int) = e.f2 ∧ l.length ≤ n + 1
  | 0, _, _, h, _ => absurd h (Nat.not_lt_zero _)
  | N + 1, n, e, hN, he => by
    have hS := Seg.whole x
    have hl := rw_len [x] (-1) 1 0
    have hn := (List.getElem?_eq_some_iff.mp he).1
    obtain ⟨e1, hno, _⟩ := node_at _ [x] (-1) 1 0 (Nat.lt_succ_self _) hS n (Nat.zero_le _) (by omega)
    obtain rfl : e1 = e := Option.some.inj (hno.hr.symm.trans he)
    obtain ⟨nx, hk⟩ := hno.hk
    have hkk := has_at hk
    rcases deep_at _ [x] (-1) 1 0 (Nat.lt_succ_self _) hS n (Nat.zero_le _) (by omega) e1 he with ⟨g1, g2⟩ | ⟨u, e2, g1, g2, g3, g4⟩
    · refine ⟨[(n : Int)], .cons he (.nil (by omega)), .cons hkk ?_, by rw [g2]; rfl, by show 1 ≤ n + 1; omega⟩
      rw [rd39 hk]
      exact .nil (by show hasB _ e1.f1 = false; rw [g1]; exact decide_eq_false (by omega))
    · obtain ⟨l, p1, p2, p3, p4⟩ := path_ex x N u e2 (by omega) g3
      refine ⟨(n : Int) :: l, .cons he (by rw [g1]; exact p1), .cons hkk ?_, by rw [g4, ← p3, List.length_cons]; omega, by rw [List.length_cons]; omega⟩
      rw [rd39 hk]
      show PathK _ e1.f1 l
      rw [g1]
      exact p2
/-! ### what lies below -/
def rng (n : Nat) (s : Nat) : List Int := (List.range' n s).map (fun i : Nat => (i : Int))
theorem rng_zero (n : Nat) : rng n 0 = [] := rfl
theorem rng_succ (n s : Nat) : rng n (s + 1) = (n : Int) :: rng (n + 1) s := by
  unfold rng
  rw [List.range'_succ, List.map_cons]
theorem rng_app (n s t : Nat) : rng n s ++ rng (n + s) t = rng n (s + t) := by
  unfold rng
  rw [← List.map_append, List.range'_append_1]
def rgN (e : S46 × Nat) : List Int := rng e.2 (szL [e.1.f0])
theorem rg_nd : ∀ (l : List S25) (up d : Int) (m : Nat), (ndL l up d m).flatMap rgN = rng m (szL l)
  | [], _, _, _ => by rw [szL_nil]; rfl
  | x :: r, up, d, m => by
    rw [ndL, List.flatMap_cons, rg_nd r up d, szL_cons]
    show rng m (szL [x]) ++ _ = _
    rw [szL_one, show m + 1 + szL x.f5 = m + (1 + szL x.f5) by omega, rng_app]
theorem nd_kp : ∀ (l : List S25) (up d : Int) (m : Nat), (ndL l up d m).map (fun e => (e.2 : Int)) = kpL l m
  | [], _, _, _ => rfl
  | x :: r, up, d, m => by rw [ndL, kpL, List.map_cons, nd_kp r up d]
theorem smQ_ndL : ∀ (l : List S25) (up d : Int) (m : Nat), smQ (ndL l up d m) = szL l
  | [], _, _, _ => by rw [szL_nil]; rfl
  | x :: r, up, d, m => by
    have h1 := szL_one x
    have h2 := szL_cons x r
    rw [ndL, smQ_cons, smQ_ndL r up d]
    show szL [x] + szL r = _
    omega
theorem smQ_rev (Q : List (S46 × Nat)) : smQ Q.reverse = smQ Q := by
  unfold smQ
  rw [List.map_reverse, List.sum_reverse]
theorem walk_ex {ks : List S39} {rl : List S46} : ∀ (N : Nat) (Q : List (S46 × Nat)), smQ Q < N → smQ Q ≤ 1000000 → (∀ e ∈ Q, Node ks rl e.1 e.2) → WalkK ks (Q.reverse.map (fun e => (e.2 : Int))) (Q.flatMap rgN)
  | 0, _, h, _, _ => absurd h (Nat.not_lt_zero _)
  | N + 1, [], _, _, _ => .nil
  | N + 1, e :: Q, hN, hM, hA => by
    have hn := hA e List.mem_cons_self
    obtain ⟨nx, hk⟩ := hn.hk
    have sz1 := szL_one e.1.f0
    have hq1 := smQ_cons e Q
    have hql := smQ_len Q
    have hlk := len_le_szL e.1.f0.f5
    obtain ⟨K, eK⟩ : ∃ K, ndL e.1.f0.f5 (e.2 : Int) (e.1.f2 + 1) (e.2 + 1) = K := ⟨_, rfl⟩
    have hsK := smQ_ndL e.1.f0.f5 (e.2 : Int) (e.1.f2 + 1) (e.2 + 1)
    have hgK := rg_nd e.1.f0.f5 (e.2 : Int) (e.1.f2 + 1) (e.2 + 1)
    have hpK := nd_kp e.1.f0.f5 (e.2 : Int) (e.1.f2 + 1) (e.2 + 1)
    rw [eK] at hsK hgK hpK
    have ih := walk_ex N (K ++ Q) (by rw [smQ_app]; omega) (by rw [smQ_app]; omega) (fun u hu => by
      rcases List.mem_append.mp hu with hu | hu
      · rw [← eK] at hu
        exact (nd_node _ _ _ _ hn.hs u hu).1
      · exact hA u (List.mem_cons_of_mem _ hu))
    rw [List.reverse_append, List.map_append, List.flatMap_append, List.map_reverse (l := K), hpK, hgK] at ih
    rw [List.reverse_cons, List.map_append, List.flatMap_cons]
    show WalkK ks (Q.reverse.map (fun e => (e.2 : Int)) ++ [(e.2 : Int)]) (rng e.2 (szL [e.1.f0]) ++ Q.flatMap rgN)
    rw [sz1, Nat.add_comm 1, rng_succ, List.cons_append]
    refine .cons (kids := kpL e.1.f0.f5 (e.2 + 1)) (has_at hk) ?_ (by rw [kpL_len]; omega) (by rw [List.length_map, List.length_reverse]; omega) ih
    rw [rd39 hk]
    exact chain_ _ _ _ _ hn.hs
theorem walk_at {ks : List S39} {rl : List S46} {e : S46} {n : Nat} (h : Node ks rl e n) (hs : szL [e.f0] ≤ 1000000) : WalkK ks [(n : Int)] (rng n (szL [e.f0])) := by
  have := walk_ex (ks := ks) (rl := rl) _ [(e, n)] (Nat.lt_succ_self _) (by rw [smQ_cons]; show szL [e.f0] + 0 ≤ _; omega) (fun u hu => by
    rw [List.mem_singleton] at hu
    subst hu
    exact h)
  rw [List.flatMap_cons, List.flatMap_nil, List.append_nil] at this
  exact this
end Go.Proofs.Ytemdnmidhmddlaa.Tree
