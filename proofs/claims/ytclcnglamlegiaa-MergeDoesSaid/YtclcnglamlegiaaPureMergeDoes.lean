/- What steps come to makes at once what they make; undone one by one, each state ahead comes back: the plain law. Conditions: none beyond what the arguments read as. -/
import Derived.Test.YtclcnglamlegiaaMgA
import Derived.Test.YtclcnglamlegiaaInMergeDoes
namespace Go.Proofs.Ytclcnglamlegiaa.Pure
open Go.RowKit Go.Proofs.Ytclcnglamlegiaa.PMD Go.Proofs.YtclcnglamlegiaaW.PrintWords Go.Proofs.YtclcnglamlegiaaW.PrintLast Go.Proofs.Ytclcnglamlegiaa.Mg
set_option linter.unusedVariables false
set_option linter.unusedSimpArgs false
theorem alive2 : Ev (fun k => (oriellaw35_alive.f k).bind fun t => some t) true := Ev.bind (f := fun k b => some b) alive_ev (Ev.now _)
theorem no_ev (a : List S36) (s : List (List S34)) : Ev (fun k => oriellaw35_MergeDoes.j0 k a s true) true :=
  Ev.step (f := fun k => (oriellaw35_alive.f k).bind fun t => some t) (fun k => by rw [oriellaw35_MergeDoes.j0, if_pos rfl]) alive2
/-- All states, the files that came in first. -/
def full : List S36 → List (List S34) → List (List S36)
  | a, [] => [a]
  | a, L :: r => a :: full (edA L 0 a) r
theorem full_zero (a : List S36) (s : List (List S34)) : (full a s)[0]? = some a := by cases s <;> rfl
theorem full_last : ∀ (s : List (List S34)) (a : List S36) (i : Nat), okT (eachS a s i).2.2 → (full a s)[s.length]? = some (eachS a s i).1
  | [], a, i, _ => rfl
  | L :: r, a, i, h => by
    unfold eachS at h ⊢
    by_cases c : okT (fault a L)
    · rw [if_pos c] at h ⊢
      exact full_last r (edA L 0 a) (i + 1) h
    · rw [if_neg c] at h
      exact absurd h c
theorem full_step : ∀ (s : List (List S34)) (a : List S36) (i : Nat) (n : Int), fits n a → okT (eachS a s i).2.2 → ∀ (j : Nat) (L : List S34), s[j]? = some L →
    ∃ f, (full a s)[j]? = some f ∧ okT (fault f L) ∧ (full a s)[j + 1]? = some (edA L 0 f) ∧ (bksS a s)[j]? = some (backA L 0 f) ∧ (statesS a s)[j]? = some (edA L 0 f) ∧ fits (n + txts s) f
  | [], a, i, n, _, _, j, L, h => by cases h
  | M :: r, a, i, n, hf, hk, j, L, h => by
    have h1 := txts_nonneg r
    have h2 := txt_nonneg M
    unfold eachS at hk
    by_cases c : okT (fault a M)
    · rw [if_pos c] at hk
      unfold full bksS statesS
      rw [if_pos c, txts_cons]
      cases j with
      | zero =>
        rw [List.getElem?_cons_zero] at h
        injection h with h
        subst h
        refine ⟨a, rfl, c, ?_, rfl, rfl, hf.mono (by omega)⟩
        rw [List.getElem?_cons_succ]
        exact full_zero _ _
      | succ j =>
        rw [List.getElem?_cons_succ] at h
        obtain ⟨f, g1, g2, g3, g4, g5, g6⟩ := full_step r (edA M 0 a) (i + 1) (n + txt M) (edA_fits a M n c hf) hk j L h
        exact ⟨f, g1, g2, g3, g4, g5, g6.mono (by omega)⟩
    · rw [if_neg c] at hk
      exact absurd hk c
theorem bksS_len : ∀ (s : List (List S34)) (a : List S36) (i : Nat), okT (eachS a s i).2.2 → (bksS a s).length = s.length
  | [], a, i, _ => rfl
  | M :: r, a, i, hk => by
    unfold eachS at hk
    by_cases c : okT (fault a M)
    · rw [if_pos c] at hk
      unfold bksS
      rw [if_pos c, List.length_cons, List.length_cons, bksS_len r _ (i + 1) hk]
    · rw [if_neg c] at hk
      exact absurd hk c
theorem each_lt : ∀ (s : List (List S34)) (a : List S36) (i : Nat), ¬ okT (eachS a s i).2.2 → (eachS a s i).2.1 < ((i + s.length : Nat) : Int)
  | [], a, i, h => absurd rfl h
  | L :: r, a, i, h => by
    unfold eachS at h ⊢
    by_cases c : okT (fault a L)
    · rw [if_pos c] at h ⊢
      have := each_lt r (edA L 0 a) (i + 1) h
      rw [List.length_cons]
      omega
    · rw [if_neg c]
      rw [List.length_cons]
      show (i : Int) < _
      omega
theorem l0_ev (a : List S36) (s : List (List S34)) (ha : fits 1500 a) (hs : sfits s) (hk : okT (eachS a s 0).2.2) : ∀ (d i : Nat), i + d = s.length → ∀ now, (full a s)[d]? = some now →
    Ev (fun k => oriellaw35_MergeDoes.l0 k a s (statesS a s) now (bksS a s).reverse ((bksS a s).reverse.length : Int) (i : Int)) true := by
  have hX := statesS_len s a
  have hB := bksS_len s a 0 hk
  have hB2 : (bksS a s).reverse.length = s.length := by rw [List.length_reverse, hB]
  have ls := hs.1
  have ts := hs.2.2
  intro d
  induction d with
  | zero =>
    intro i h now hnow
    rw [full_zero] at hnow
    injection hnow with hnow
    subst hnow
    have q : ¬ ((i : Int) < ((bksS a s).reverse.length : Int)) := by omega
    refine Ev.step (f := fun k => (orielref17_Files.f k a a).bind fun t286 => (if t286 = true then ((oriellaw35_alive.f k).bind fun t287 => (some t287)) else (none))) (fun k => by rw [oriellaw35_MergeDoes.l0, if_neg q]) ?_
    exact Ev.bind (f := fun k t => _) (TFiles_ev a (by have := ha.1; omega)) (Ev.ite_pos rfl alive2)
  | succ d ih =>
    intro i h now hnow
    have hd : d < s.length := by omega
    obtain ⟨f, g1, g2, g3, g4, g5, g6⟩ := full_step s a 0 1500 ha hk d (s[d]) (List.getElem?_eq_getElem hd)
    rw [g3] at hnow
    injection hnow with hnow
    subst hnow
    have q1 : (i : Int) < ((bksS a s).reverse.length : Int) := by omega
    have q2 : (0 : Int) ≤ (i : Int) := Int.natCast_nonneg _
    have hb : rd_L4 (bksS a s).reverse (i : Int) = backA s[d] 0 f := by
      unfold rd_L4
      rw [Int.toNat_natCast, List.getD_eq_getElem?_getD, List.getElem?_reverse (by omega), show (bksS a s).length - 1 - i = d by omega, g4]
      rfl
    have hL := hs.2.1 s[d] (List.getElem_mem hd)
    have hf2 : fits 2100 f := g6.mono (by omega)
    have hfz := (fault_zero f s[d] (by rw [show fault f s[d] = (0, 0, 0) from g2])).2.2.2
    have hbl := backA_len s[d] f 0
    have hbt := backA_txt s[d] 2100 (by decide) f 0 hf2.2 (fun j x hx => by rw [Nat.zero_add]; exact hfz j x hx)
    have hfl := hf2.1
    have hbl2 : (backA s[d] 0 f).length ≤ 160 := Nat.le_trans hbl (Nat.mul_le_mul hL hfl)
    have hbt2 : txt (backA s[d] 0 f) ≤ 10000 := by
      have : (2100 : Int) * (f.length : Int) ≤ 2100 * 4 := by omega
      omega
    have hmem : txt s[d] ≤ txts s := by
      have key : ∀ (t : List (List S34)) (L : List S34), L ∈ t → txt L ≤ txts t := by
        intro t
        induction t with
        | nil => intro L h; cases h
        | cons M r ih2 =>
          intro L h
          have h1 := txts_nonneg r
          have h2 := txt_nonneg M
          rw [txts_cons]
          rcases List.mem_cons.mp h with rfl | h
          · omega
          · have := ih2 L h
            omega
      exact key s _ (List.getElem_mem hd)
    have hf3 : fits 2700 (edA s[d] 0 f) := (edA_fits f s[d] 2100 g2 hf2).mono (by omega)
    have hA := TApply_ev (edA s[d] 0 f) (backA s[d] 0 f) (by omega) 2700 hf3 (by omega) hbt2
    rw [if_pos (back_right f s[d] g2), back_makes f s[d] g2] at hA
    have w : wrap64 (wrap64 ((s.length : Int) - 2) - (i : Int)) = (s.length : Int) - 2 - (i : Int) := by rw [wid (x := (s.length : Int) - 2) (by omega) (by omega), wid (by omega) (by omega)]
    have hj : ∀ x21 : List S36, x21 = f → Ev (fun k => oriellaw35_MergeDoes.j5 k a s (statesS a s) f x21 (bksS a s).reverse ((bksS a s).reverse.length : Int) (i : Int) 0 0 0) true := by
      intro x21 e
      subst e
      refine Ev.step (f := fun k => (orielref17_Files.f k x21 x21).bind fun t297 => (if t297 = true then (oriellaw35_MergeDoes.l0 k a s (statesS a s) x21 (bksS a s).reverse ((bksS a s).reverse.length : Int) (wrap64 ((i : Int) + 1))) else (none))) (fun k => by rw [oriellaw35_MergeDoes.j5, if_neg (show ¬ ((!((0 : Int) == 0) || (!((0 : Int) == 0) || (!((0 : Int) == 0)))) = true) by decide)]) ?_
      refine Ev.bind (f := fun k t => _) (TFiles_ev x21 (by omega)) (Ev.ite_pos rfl ?_)
      rw [wsucc i (by omega)]
      exact ih (i + 1) (by omega) x21 g1
    refine Ev.step (f := fun k => (orielref17_Apply.f k (edA s[d] 0 f) (backA s[d] 0 f)).bind fun bt289 => (if (s.length : Int) - 2 - (i : Int) ≥ 0 then (if 0 ≤ (s.length : Int) - 2 - (i : Int) then (if (s.length : Int) - 2 - (i : Int) < ((statesS a s).length : Int) then (oriellaw35_MergeDoes.j5 k a s (statesS a s) bt289.1 (rd_L7 (statesS a s) ((s.length : Int) - 2 - (i : Int))) (bksS a s).reverse ((bksS a s).reverse.length : Int) (i : Int) bt289.2.1 bt289.2.2.1 bt289.2.2.2) else (none)) else (none)) else (oriellaw35_MergeDoes.j5 k a s (statesS a s) bt289.1 a (bksS a s).reverse ((bksS a s).reverse.length : Int) (i : Int) bt289.2.1 bt289.2.2.1 bt289.2.2.2))) (fun k => by rw [oriellaw35_MergeDoes.l0, if_pos q1, if_pos q2, if_pos q1, hb, w]) ?_
    refine Ev.bind (f := fun k t => _) hA ?_
    cases d with
    | zero =>
      rw [full_zero] at g1
      injection g1 with g1
      exact Ev.ite_neg (by omega) (hj a g1)
    | succ e =>
      refine Ev.ite_pos (by omega) (Ev.ite_pos (by omega) (Ev.ite_pos (by omega) (hj _ ?_)))
      have he : e < s.length := by omega
      obtain ⟨f', k1, k2, k3, k4, k5, k6⟩ := full_step s a 0 1500 ha hk e (s[e]) (List.getElem?_eq_getElem he)
      rw [k3] at g1
      injection g1 with g1
      unfold rd_L7
      rw [show ((s.length : Int) - 2 - (i : Int)).toNat = e by omega, List.getD_eq_getElem?_getD, k5, ← g1]
      rfl
theorem j2_ev (a : List S36) (s : List (List S34)) (ha : fits 1500 a) (hs : sfits s) (hk : okT (eachS a s 0).2.2) : Ev (fun k => oriellaw35_MergeDoes.j2 k a s (statesS a s) (netS 0 a (eachS a s 0).1) (bksS a s).reverse (eachS a s 0).1) true := by
  have la := ha.1
  have ts := hs.2.2
  obtain ⟨h1, h2, h3⟩ := eachS_ok s a 0 1500 ha hk
  have hn := eachS_names s a 0 hk
  have hM : fits 2100 (eachS a s 0).1 := h2.mono (by omega)
  have hnl := net_len' a (eachS a s 0).1 0
  have hnt := net_txt 2100 a (eachS a s 0).1 0 (fun y hy => by have := hM.2 y hy; omega)
  have hA := TApply_ev a (netS 0 a (eachS a s 0).1) (by omega) 1500 ha (by omega) (by have : (2100 : Nat) * a.length ≤ 2100 * 4 := Nat.mul_le_mul_left _ la; omega)
  rw [if_pos (net_right a _ h1.symm), net_makes a _ h1.symm hn.symm] at hA
  refine Ev.step (fun k => by rw [oriellaw35_MergeDoes.j2]) ?_
  refine Ev.bind (f := fun k t => _) hA ?_
  refine Ev.ite_neg (show ¬ ((!((0 : Int) == 0) || (!((0 : Int) == 0) || (!((0 : Int) == 0)))) = true) by decide) ?_
  refine Ev.bind (f := fun k t => _) (TFiles_ev (eachS a s 0).1 (by omega)) (Ev.ite_pos rfl ?_)
  have hB2 : (bksS a s).reverse.length = s.length := by rw [List.length_reverse, bksS_len s a 0 hk]
  refine Ev.step (fun k => by rw [oriellaw35_MergeDoes.j3, if_neg (show ¬ ((((bksS a s).reverse.length : Int) != (s.length : Int)) = true) by rw [hB2]; simp)]) ?_
  exact l0_ev a s ha hs hk s.length 0 (by omega) _ (full_last s a 0 hk)
theorem yes_ev (a : List S36) (s : List (List S34)) (ha : fits 1500 a) (hs : sfits s) : Ev (fun k => oriellaw35_MergeDoes.j0 k a s false) true := by
  have ls := hs.1
  have ts := hs.2.2
  have la := ha.1
  have R2 := RReplay_ev a s (by omega) (fun M hM => by have := hs.2.1 M hM; omega) 1500 ha (by omega) (by omega)
  have N1 := Net_ev a s (by omega) (fun M hM => by have := hs.2.1 M hM; omega) 1500 ha (by omega)
  have U1 := Undo_ev a s (by omega) (fun M hM => by have := hs.2.1 M hM; omega) 1500 ha (by omega)
  have e1 : ∀ x : Int, (x == x) = true := fun x => beq_self_eq_true x
  have nn : ∀ x y z : Int, ((!(x == x) || (!(y == y) || (!(z == z))))) = false := fun x y z => by rw [e1, e1, e1]; rfl
  refine Ev.step (fun k => by rw [oriellaw35_MergeDoes.j0, if_neg (show ¬ (false = true) by decide)]) ?_
  refine Ev.bind (f := fun k t => _) R2 ?_
  refine Ev.bind (f := fun k t => _) N1 ?_
  refine Ev.bind (f := fun k t => _) U1 ?_
  unfold repS undoS
  by_cases c : okT (eachS a s 0).2.2
  · rw [if_pos c, if_pos c, if_pos c]
    refine Ev.ite_neg (by rw [nn]; decide) ?_
    dsimp only
    rw [nn]
    refine Ev.step (fun k => by rw [oriellaw35_MergeDoes.j1, if_neg (show ¬ (false = true) by decide), if_neg (show ¬ ((!((0 : Int) == 0) || (!((0 : Int) == 0) || (!((0 : Int) == 0)))) = true) by decide)]) ?_
    have hX := statesS_len s a
    by_cases e : s = []
    · subst e
      exact Ev.ite_neg (show ¬ ((((([] : List (List S36)).length) : Int)) > 0) by decide) (j2_ev a [] ha hs c)
    · have hl : s.length ≠ 0 := fun h => e (List.length_eq_zero_iff.mp h)
      have w : wrap64 (((statesS a s).length : Int) - 1) = ((s.length - 1 : Nat) : Int) := by rw [hX, wid (by omega) (by omega)]; omega
      rw [w, states_last s a e c, hX]
      exact Ev.ite_pos (by omega) (Ev.ite_pos (by omega) (Ev.ite_pos (by omega) (j2_ev a s ha hs c)))
  · rw [if_neg c, if_neg c, if_neg c]
    refine Ev.ite_neg (by rw [nn]; decide) ?_
    dsimp only
    rw [nn]
    have e : ((eachS a s 0).2.2.1 == 0) = false := beq_eq_false_iff_ne.mpr (eachS_bad s a 0 c).2
    have hlt := each_lt s a 0 c
    rw [Nat.zero_add] at hlt
    refine Ev.step (fun k => by rw [oriellaw35_MergeDoes.j1, if_neg (show ¬ (false = true) by decide), if_pos (show (!((eachS a s 0).2.2.1 == 0) || (!((eachS a s 0).2.2.2.1 == 0) || (!((eachS a s 0).2.2.2.2 == 0)))) = true by rw [e]; rfl), if_pos (show wrap64 (((([] : List S34).length) : Int) + ((([] : List (List S34)).length) : Int)) = 0 from wid (x := 0) (by decide) (by decide)), if_pos hlt]) ?_
    exact alive2
theorem MergeDoes : oriellaw35_MergeDoes.Pure := by
  intro a s ga gs
  have la : a.length ≤ 9223372036854775807 := ga.1
  have ls : s.length ≤ 9223372036854775807 := gs.1
  refine Ev.rounds ?_
  obtain ⟨u, hu1, hu2⟩ := few_ev a la
  obtain ⟨v, hv1, hv2⟩ := sfew_ev s ls
  unfold oriellaw35_MergeDoes.f
  refine Ev.bind (f := fun k t => _) hu1 ?_
  cases u with
  | false => exact Ev.ite_neg (by decide) (no_ev a s)
  | true =>
    refine Ev.ite_pos rfl ?_
    refine Ev.bind (f := fun k t => _) hv1 ?_
    cases v with
    | false => exact no_ev a s
    | true => exact yes_ev a s (hu2 rfl) (hv2 rfl)
end Go.Proofs.Ytclcnglamlegiaa.Pure
