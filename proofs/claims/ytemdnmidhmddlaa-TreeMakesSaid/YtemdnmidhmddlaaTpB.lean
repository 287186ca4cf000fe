/- Within: what is asked of the tree and what the document says, as lists. Conditions: as the theorems say. -/
import Derived.Test.YtemdnmidhmddlaaTpA
import Derived.Test.YtemdnmidhmddlaaTrF
import Derived.Test.YtemdnmidhmddlaaPAllx5
namespace Go.Proofs.Ytemdnmidhmddlaa.Tree
open Go Go.RowKit Go.Proofs.YtemdnmidhmddlaaW.PrintWords Go.Proofs.YtemdnmidhmddlaaW.PrintLast Go.Proofs.YtemdnmidhmddlaaW.PrintMore Go.Proofs.Ytemdnmidhmddlaa.PAll
set_option linter.unusedVariables false
set_option linter.unusedSimpArgs false
/-- Branches laid at a place. -/
def Seg (ks : List S39) (rl : List S46) (l : List S25) (up d : Int) (m : Nat) : Prop :=
  (∃ a b, ks = a ++ (knL l up m ++ b) ∧ a.length = m) ∧ (∃ a b, rl = a ++ (rwL l up d m ++ b) ∧ a.length = m)
/-- A branch at its place. -/
structure Node (ks : List S39) (rl : List S46) (e : S46) (m : Nat) : Prop where
  hk : ∃ nx, ks[m]? = some (⟨e.f0.f0, e.f0.f1, e.f0.f2, e.f0.f3, e.f1, fst e.f0.f5 (m + 1), nx⟩ : S39)
  hr : rl[m]? = some e
  hs : Seg ks rl e.f0.f5 (m : Int) (e.f2 + 1) (m + 1)
theorem at_mid {α : Type} (a b : List α) (x : α) : (a ++ x :: b)[a.length]? = some x := by
  rw [List.getElem?_append_right (Nat.le_refl _), Nat.sub_self, List.getElem?_cons_zero]
theorem Seg.cons {ks : List S39} {rl : List S46} {x : S25} {r : List S25} {up d : Int} {m : Nat} (h : Seg ks rl (x :: r) up d m) :
    ks[m]? = some (⟨x.f0, x.f1, x.f2, x.f3, up, fst x.f5 (m + 1), fst r (m + 1 + szL x.f5)⟩ : S39) ∧ Node ks rl ⟨x, up, d⟩ m ∧ Seg ks rl r up d (m + 1 + szL x.f5) := by
  obtain ⟨⟨a, b, hk, ha⟩, ⟨a2, b2, hr, ha2⟩⟩ := h
  rw [knL_cons] at hk
  rw [rwL_cons] at hr
  have k0 : ks[m]? = some (⟨x.f0, x.f1, x.f2, x.f3, up, fst x.f5 (m + 1), fst r (m + 1 + szL x.f5)⟩ : S39) := by
    rw [hk, ← ha, List.cons_append]
    exact at_mid _ _ _
  have r0 : rl[m]? = some (⟨x, up, d⟩ : S46) := by
    rw [hr, ← ha2, List.cons_append]
    exact at_mid _ _ _
  have s1 : Seg ks rl x.f5 (m : Int) (d + 1) (m + 1) :=
    ⟨⟨a ++ [_], knL r up (m + 1 + szL x.f5) ++ b, by rw [hk]; simp only [List.cons_append, List.append_assoc, List.nil_append]; rfl, by rw [List.length_append, ha]; rfl⟩,
     ⟨a2 ++ [_], rwL r up d (m + 1 + szL x.f5) ++ b2, by rw [hr]; simp only [List.cons_append, List.append_assoc, List.nil_append]; rfl, by rw [List.length_append, ha2]; rfl⟩⟩
  have s2 : Seg ks rl r up d (m + 1 + szL x.f5) :=
    ⟨⟨a ++ (_ :: knL x.f5 (m : Int) (m + 1)), b, by rw [hk]; simp only [List.cons_append, List.append_assoc, List.nil_append]; rfl, by rw [List.length_append, List.length_cons, kn_len, ha]; omega⟩,
     ⟨a2 ++ (_ :: rwL x.f5 (m : Int) (d + 1) (m + 1)), b2, by rw [hr]; simp only [List.cons_append, List.append_assoc, List.nil_append]; rfl, by rw [List.length_append, List.length_cons, rw_len, ha2]; omega⟩⟩
  exact ⟨k0, ⟨⟨_, k0⟩, r0, s1⟩, s2⟩
theorem Seg.whole (x : S25) : Seg (knL [x] (-1) 0) (rwL [x] (-1) 1 0) [x] (-1) 1 0 :=
  ⟨⟨[], [], by rw [List.append_nil, List.nil_append], rfl⟩, ⟨[], [], by rw [List.append_nil, List.nil_append], rfl⟩⟩
theorem rd39 {l : List S39} {i : Nat} {y : S39} (h : l[i]? = some y) : rd_T39 l (i : Int) = y := by
  unfold rd_T39
  rw [Int.toNat_natCast, List.getD_eq_getElem?_getD, h]
  rfl
theorem rd46 {l : List S46} {i : Nat} {y : S46} (h : l[i]? = some y) : rd_T46 l (i : Int) = y := by
  unfold rd_T46
  rw [Int.toNat_natCast, List.getD_eq_getElem?_getD, h]
  rfl
theorem has_at {ks : List S39} {m : Nat} {k : S39} (h : ks[m]? = some k) : hasB ks (m : Int) = true := by
  have := (List.getElem?_eq_some_iff.mp h).1
  exact decide_eq_true ⟨by omega, by omega⟩
/-- The places of branches that lie beside one another. -/
def kpL : List S25 → Nat → List Int
  | [], _ => []
  | x :: r, m => (m : Int) :: kpL r (m + 1 + szL x.f5)
theorem kpL_len : ∀ (l : List S25) (m : Nat), (kpL l m).length = l.length
  | [], _ => rfl
  | x :: r, m => by rw [kpL, List.length_cons, kpL_len r, List.length_cons]
theorem chain_ {ks : List S39} {rl : List S46} : ∀ (l : List S25) (up d : Int) (m : Nat), Seg ks rl l up d m → ChainK ks (fst l m) (kpL l m)
  | [], _, _, _, _ => .nil
  | x :: r, up, d, m, h => by
    obtain ⟨hk, _, hs⟩ := h.cons
    rw [kpL, fst_ne (by simp)]
    refine .cons (has_at hk) ?_
    rw [rd39 hk]
    exact chain_ r up d _ hs
theorem ChainK.has {ks : List S39} {k : Int} {l : List Int} (h : ChainK ks k l) : ∀ q ∈ l, hasB ks q = true := by
  induction h with
  | nil => exact fun q hq => by cases hq
  | cons h1 _ ih =>
    intro q hq
    rcases List.mem_cons.mp hq with rfl | hq
    · exact h1
    · exact ih q hq
/-- Those branches with their places. -/
def ndL : List S25 → Int → Int → Nat → List (S46 × Nat)
  | [], _, _, _ => []
  | x :: r, up, d, m => (⟨x, up, d⟩, m) :: ndL r up d (m + 1 + szL x.f5)
theorem nd_node {ks : List S39} {rl : List S46} : ∀ (l : List S25) (up d : Int) (m : Nat), Seg ks rl l up d m → ∀ e ∈ ndL l up d m, Node ks rl e.1 e.2 ∧ e.1.f2 = d ∧ szL [e.1.f0] ≤ szL l
  | [], _, _, _, _, e, he => by cases he
  | x :: r, up, d, m, h, e, he => by
    obtain ⟨hk, hn, hs⟩ := h.cons
    rw [ndL] at he
    rcases List.mem_cons.mp he with rfl | he
    · exact ⟨hn, rfl, by have h1 := szL_one x; have h2 := szL_cons x r; show szL [x] ≤ szL (x :: r); omega⟩
    · obtain ⟨h1, h2, h3⟩ := nd_node r up d _ hs e he
      exact ⟨h1, h2, by have h4 := szL_cons x r; omega⟩
def holdS (x : S25) (tok : Int) : Bool := decide (x.f2 ≤ tok) && decide (tok < x.f3)
def prS (e : S46 × Nat) : Int × Int := ((e.2 : Int), e.1.f2)
theorem kp_filter {ks : List S39} {rl : List S46} (tok : Int) : ∀ (l : List S25) (up d : Int) (m : Nat), Seg ks rl l up d m → ((kpL l m).filter (fun k => holdB ks k tok)).map (fun k => (k, d)) = ((ndL l up d m).filter (fun e => holdS e.1.f0 tok)).map prS
  | [], _, _, _, _ => rfl
  | x :: r, up, d, m, h => by
    obtain ⟨hk, hn, hs⟩ := h.cons
    have ih := kp_filter tok r up d _ hs
    have e1 : holdB ks (m : Int) tok = holdS x tok := by unfold holdB holdS; rw [rd39 hk]
    rw [kpL, ndL]
    by_cases c : holdS x tok = true
    · rw [List.filter_cons_of_pos (by rw [e1]; exact c), List.filter_cons_of_pos (by exact c), List.map_cons, List.map_cons, ih]
      rfl
    · rw [List.filter_cons_of_neg (by rw [e1]; exact c), List.filter_cons_of_neg (by exact c), ih]
/-- The parts in which a token lies, their parents too: place and depth. -/
def gdL (tok : Int) : List S25 → Int → Nat → List (Int × Int)
  | [], _, _ => []
  | x :: r, d, m => (if holdS x tok = true then ((m : Int), d) :: gdL tok x.f5 (d + 1) (m + 1) else []) ++ gdL tok r d (m + 1 + szL x.f5)
termination_by l => SizeOf.sizeOf l
decreasing_by all_goals first | exact szk _ _ | exact szr _ _
theorem gdL_nil (tok d : Int) (m : Nat) : gdL tok [] d m = [] := by rw [gdL]
theorem gdL_cons (tok : Int) (x : S25) (r : List S25) (d : Int) (m : Nat) : gdL tok (x :: r) d m = (if holdS x tok = true then ((m : Int), d) :: gdL tok x.f5 (d + 1) (m + 1) else []) ++ gdL tok r d (m + 1 + szL x.f5) := by rw [gdL]
def gdN (tok : Int) (e : S46 × Nat) : List (Int × Int) := prS e :: gdL tok e.1.f0.f5 (e.1.f2 + 1) (e.2 + 1)
theorem gd_nd (tok : Int) : ∀ (l : List S25) (up d : Int) (m : Nat), ((ndL l up d m).filter (fun e => holdS e.1.f0 tok)).flatMap (gdN tok) = gdL tok l d m
  | [], _, _, _ => by rw [gdL_nil]; rfl
  | x :: r, up, d, m => by
    rw [gdL_cons, ndL, ← gd_nd tok r up d]
    by_cases c : holdS x tok = true
    · rw [List.filter_cons_of_pos (by exact c), if_pos c, List.flatMap_cons]
      rfl
    · rw [List.filter_cons_of_neg (by exact c), if_neg c, List.nil_append]
/-! ### the greatest one -/
def LeP (q p : Int × Int) : Prop := q.2 < p.2 ∨ (q.2 = p.2 ∧ q.1 ≤ p.1)
def Mx (S : List (Int × Int)) (p : Int × Int) : Prop := p ∈ S ∧ ∀ q ∈ S, LeP q p
theorem Mx.congr {S T : List (Int × Int)} {p : Int × Int} (h : Mx S p) (e : ∀ q, q ∈ S ↔ q ∈ T) : Mx T p := ⟨(e p).mp h.1, fun q hq => h.2 q ((e q).mpr hq)⟩
theorem Mx.uniq {S : List (Int × Int)} {p q : Int × Int} (h : Mx S p) (g : Mx S q) : p = q := by
  have h1 := h.2 q g.1
  have h2 := g.2 p h.1
  unfold LeP at h1 h2
  refine Prod.ext ?_ ?_ <;> omega
theorem Mx.upd {S : List (Int × Int)} {x p : Int × Int} {b d : Int} (h : Mx (upd x b d :: S) p) : Mx ((b, d) :: x :: S) p := by
  obtain ⟨h1, h2⟩ := h
  have h3 := h2 _ List.mem_cons_self
  unfold Tree.upd at h1 h3
  by_cases c : x.2 > d ∨ (x.2 = d ∧ x.1 > b)
  · rw [if_pos c] at h1 h3
    refine ⟨?_, ?_⟩
    · rcases List.mem_cons.mp h1 with rfl | h1
      · simp
      · simp [h1]
    · intro q hq
      rcases List.mem_cons.mp hq with rfl | hq
      · unfold LeP at h3 ⊢; omega
      · rcases List.mem_cons.mp hq with rfl | hq
        · exact h3
        · exact h2 q (List.mem_cons_of_mem _ hq)
  · rw [if_neg c] at h1 h3
    refine ⟨?_, ?_⟩
    · rcases List.mem_cons.mp h1 with rfl | h1
      · simp
      · simp [h1]
    · intro q hq
      rcases List.mem_cons.mp hq with rfl | hq
      · exact h3
      · rcases List.mem_cons.mp hq with rfl | hq
        · unfold LeP at h3 ⊢; simp only at h3; omega
        · exact h2 q (List.mem_cons_of_mem _ hq)
/-! ### what is asked of the tree -/
def smQ (Q : List (S46 × Nat)) : Nat := (Q.map (fun e => szL [e.1.f0])).sum
theorem smQ_cons (e : S46 × Nat) (Q : List (S46 × Nat)) : smQ (e :: Q) = szL [e.1.f0] + smQ Q := rfl
theorem smQ_app (P Q : List (S46 × Nat)) : smQ (P ++ Q) = smQ P + smQ Q := by unfold smQ; rw [List.map_append, List.sum_append]
theorem smQ_len : ∀ Q : List (S46 × Nat), Q.length ≤ smQ Q
  | [] => Nat.zero_le _
  | e :: Q => by
    have := smQ_len Q
    have := szL_one e.1.f0
    rw [smQ_cons, List.length_cons]
    omega
theorem smQ_nd (tok : Int) : ∀ (l : List S25) (up d : Int) (m : Nat), smQ ((ndL l up d m).filter (fun e => holdS e.1.f0 tok)) ≤ szL l
  | [], _, _, _ => Nat.zero_le _
  | x :: r, up, d, m => by
    have ih := smQ_nd tok r up d (m + 1 + szL x.f5)
    rw [ndL, szL_cons]
    by_cases c : holdS x tok = true
    · rw [List.filter_cons_of_pos (by exact c), smQ_cons, szL_one]
      show 1 + szL x.f5 + _ ≤ _
      omega
    · rw [List.filter_cons_of_neg (by exact c)]
      omega
theorem bfs {ks : List S39} {rl : List S46} (tok : Int) : ∀ (N : Nat) (Q : List (S46 × Nat)) (b d : Int), smQ Q < N → smQ Q ≤ 1000000 → (∀ e ∈ Q, Node ks rl e.1 e.2 ∧ 0 ≤ e.1.f2 ∧ e.1.f2 + (szL [e.1.f0] : Int) ≤ 1000000) →
    ∃ nr p, WithK ks tok nr (Q.map prS) b d p.1 ∧ Mx ((b, d) :: Q.flatMap (gdN tok)) p
  | 0, _, _, _, h, _, _ => absurd h (Nat.not_lt_zero _)
  | N + 1, [], b, d, _, _, _ => ⟨0, (b, d), .nil, ⟨by simp, fun q hq => by
      rcases List.mem_cons.mp hq with rfl | hq
      · exact Or.inr ⟨rfl, Int.le_refl _⟩
      · cases hq⟩⟩
  | N + 1, e :: Q, b, d, hN, hM, hA => by
    obtain ⟨hn, h0, h1⟩ := hA e List.mem_cons_self
    obtain ⟨⟨nx, hk⟩, hr, hs⟩ := hn
    have sz1 := szL_one e.1.f0
    have hq1 := smQ_cons e Q
    have hK := smQ_nd tok e.1.f0.f5 (e.2 : Int) (e.1.f2 + 1) (e.2 + 1)
    have hql := smQ_len Q
    have hch := chain_ e.1.f0.f5 (e.2 : Int) (e.1.f2 + 1) (e.2 + 1) hs
    have hlk := len_le_szL e.1.f0.f5
    obtain ⟨K, eK⟩ : ∃ K, (ndL e.1.f0.f5 (e.2 : Int) (e.1.f2 + 1) (e.2 + 1)).filter (fun e => holdS e.1.f0 tok) = K := ⟨_, rfl⟩
    have hKm : ∀ u ∈ K, Node ks rl u.1 u.2 ∧ u.1.f2 = e.1.f2 + 1 ∧ szL [u.1.f0] ≤ szL e.1.f0.f5 := fun u hu => by
      rw [← eK] at hu
      exact nd_node _ _ _ _ hs u (List.mem_filter.mp hu).1
    have hgd := gd_nd tok e.1.f0.f5 (e.2 : Int) (e.1.f2 + 1) (e.2 + 1)
    have hkf := kp_filter (ks := ks) (rl := rl) tok e.1.f0.f5 (e.2 : Int) (e.1.f2 + 1) (e.2 + 1) hs
    rw [eK] at hK hgd hkf
    obtain ⟨nr, p, hw, hx⟩ := bfs tok N (Q ++ K) (upd (prS e) b d).1 (upd (prS e) b d).2 (by rw [smQ_app]; omega) (by rw [smQ_app]; omega) (fun u hu => by
      rcases List.mem_append.mp hu with hu | hu
      · exact hA u (List.mem_cons_of_mem _ hu)
      · obtain ⟨g1, g2, g3⟩ := hKm u hu
        exact ⟨g1, by omega, by omega⟩)
    refine ⟨nr + 1, p, ?_, ?_⟩
    · rw [List.map_cons]
      refine .cons (kids := kpL e.1.f0.f5 (e.2 + 1)) (has_at hk) ?_ hch.has (by rw [kpL_len]; omega) (by rw [List.length_map]; omega) ⟨h0, by show e.1.f2 ≤ _; omega⟩ ?_
      · show ChainK ks (rd_T39 ks (e.2 : Int)).f5 _
        rw [rd39 hk]
        exact hch
      · show WithK ks tok nr (Q.map prS ++ ((kpL e.1.f0.f5 (e.2 + 1)).filter (fun k => holdB ks k tok)).map (fun k => (k, e.1.f2 + 1))) _ _ _
        rw [hkf, ← List.map_append]
        exact hw
    · refine Mx.congr (Mx.upd (x := prS e) (S := (Q ++ K).flatMap (gdN tok)) hx) (fun q => ?_)
      rw [List.flatMap_append, hgd, List.flatMap_cons]
      unfold gdN
      simp only [List.mem_cons, List.mem_append]
      constructor
      · rintro (h | h | h | h)
        · exact Or.inl h
        · exact Or.inr (Or.inl (Or.inl h))
        · exact Or.inr (Or.inr h)
        · exact Or.inr (Or.inl (Or.inr h))
      · rintro (h | (h | h) | h)
        · exact Or.inl h
        · exact Or.inr (Or.inl h)
        · exact Or.inr (Or.inr (Or.inr h))
        · exact Or.inr (Or.inr (Or.inl h))
end Go.Proofs.Ytemdnmidhmddlaa.Tree
