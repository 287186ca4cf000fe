/- What steps come to, and what others behind them come to, come to what all come to: the plain law. Conditions: none beyond what the arguments read as. -/
import Derived.Test.YtclcnglamlegiaaMgA
import Derived.Test.YtclcnglamlegiaaInMergeOn
namespace Go.Proofs.Ytclcnglamlegiaa.Pure
open Go.RowKit Go.Proofs.Ytclcnglamlegiaa.PMO Go.Proofs.YtclcnglamlegiaaW.PrintWords Go.Proofs.YtclcnglamlegiaaW.PrintLast Go.Proofs.Ytclcnglamlegiaa.Mg
set_option linter.unusedVariables false
set_option linter.unusedSimpArgs false
theorem alive2 : Ev (fun k => (oriellaw35_alive.f k).bind fun t => some t) true := Ev.bind (f := fun k b => some b) alive_ev (Ev.now _)
theorem no_ev (a : List S36) (s t : List (List S34)) : Ev (fun k => oriellaw35_MergeOn.j0 k a s t true) true :=
  Ev.step (f := fun k => (oriellaw35_alive.f k).bind fun t232 => some t232) (fun k => by rw [oriellaw35_MergeOn.j0, if_pos rfl]) alive2
theorem txts_app : ∀ s t : List (List S34), txts (s ++ t) = txts s + txts t
  | [], t => by rw [List.nil_append, show txts [] = 0 from rfl, Int.zero_add]
  | L :: r, t => by rw [List.cons_append, txts_cons, txts_cons, txts_app r t, Int.add_assoc]
/-- Net's answer. -/
def netA (a : List S36) (s : List (List S34)) : List S34 × Int × Int × Int × Int := if okT (eachS a s 0).2.2 then (netS 0 a (eachS a s 0).1, 0, 0, 0, 0) else ([], (eachS a s 0).2.1, (eachS a s 0).2.2)
def bad3 (t : Int × Int × Int) : Bool := (!(t.1 == 0) || (!(t.2.1 == 0) || (!(t.2.2 == 0))))
theorem netA_ok {a : List S36} {s : List (List S34)} (h : okT (eachS a s 0).2.2) : netA a s = (netS 0 a (eachS a s 0).1, 0, 0, 0, 0) := if_pos h
theorem netA_bad {a : List S36} {s : List (List S34)} (h : ¬ okT (eachS a s 0).2.2) : (netA a s).2.2.1 ≠ 0 := by
  unfold netA
  rw [if_neg h]
  exact (eachS_bad s a 0 h).2
theorem bad_of {t : Int × Int × Int} (h : t.1 ≠ 0) : bad3 t = true := by
  unfold bad3
  rw [beq_eq_false_iff_ne.mpr h]
  rfl
theorem j1_true (a : List S36) (t : List (List S34)) (x y : List S34) (f g : Int × Int × Int) (h : bad3 f = true ∨ (g.1 == 0 && (g.2.1 == 0 && (g.2.2 == 0))) = true) : Ev (fun k => oriellaw35_MergeOn.j1 k a t x y true f.1 f.2.1 f.2.2 g.1 g.2.1 g.2.2) true := by
  refine Ev.step (fun k => by rw [oriellaw35_MergeOn.j1, if_pos rfl]) ?_
  by_cases c : bad3 f = true
  · exact Ev.ite_pos c alive2
  · exact Ev.ite_neg c (Ev.ite_pos (h.resolve_left c) alive2)
theorem yes_ev (a : List S36) (s t : List (List S34)) (ha : fits 1500 a) (hs : sfits s) (ht : sfits t) : Ev (fun k => oriellaw35_MergeOn.j0 k a s t false) true := by
  have hf : ¬ (false = true) := by decide
  have ls := hs.1
  have lt := ht.1
  have lst : (s ++ t).length ≤ 12 := by rw [List.length_append]; omega
  have mst : ∀ L ∈ s ++ t, L.length ≤ 1000000 := fun L hL => by
    rcases List.mem_append.mp hL with h | h
    · have := hs.2.1 L h; omega
    · have := ht.2.1 L h; omega
  have tst : txts (s ++ t) ≤ 1200 := by rw [txts_app]; have := hs.2.2; have := ht.2.2; omega
  have N1 : Ev (fun k => merge_Net.f k a (s ++ t)) (netA a (s ++ t)) := Net_ev a (s ++ t) (by omega) mst 1500 ha (by omega)
  have N2 : Ev (fun k => merge_Net.f k a s) (netA a s) := Net_ev a s (by omega) (fun L hL => mst L (List.mem_append_left _ hL)) 1500 ha (by have := hs.2.2; omega)
  have happ := eachS_app s t a 0
  refine Ev.step (fun k => by rw [oriellaw35_MergeOn.j0, if_neg hf]) ?_
  simp only [Option.bind_some, List.nil_append, List.length_nil]
  refine Ev.ite_pos (by omega) (Ev.ite_pos (by omega) ?_)
  refine Ev.bind (f := fun k t => _) N1 ?_
  refine Ev.bind (f := fun k t => _) N2 ?_
  by_cases c : okT (eachS a (s ++ t) 0).2.2
  · have c1 : okT (eachS a s 0).2.2 := by
      by_cases d : okT (eachS a s 0).2.2
      · exact d
      · rw [if_neg d] at happ
        rw [happ] at c
        exact c
    rw [if_pos c1] at happ
    obtain ⟨h1, h2, h3⟩ := eachS_ok s a 0 1500 ha c1
    have hz := hs.2.2
    have h2' : fits 2100 (eachS a s 0).1 := h2.mono (by omega)
    obtain ⟨i1, i2⟩ := eachS_idx t (eachS a s 0).1 (0 + s.length) 0
    have c2 : okT (eachS (eachS a s 0).1 t 0).2.2 := by
      rw [happ] at c
      rw [← i2]
      exact c
    obtain ⟨g1, g2, g3⟩ := eachS_ok t (eachS a s 0).1 0 2100 h2' c2
    have hzt := ht.2.2
    have g2' : fits 2700 (eachS (eachS a s 0).1 t 0).1 := g2.mono (by omega)
    rw [netA_ok c, netA_ok c1]
    refine Ev.ite_neg (show ¬ (bad3 ((0 : Int), (0 : Int), (0 : Int)) = true) by decide) ?_
    obtain ⟨M, hM⟩ : ∃ M, M = (eachS a s 0).1 := ⟨_, rfl⟩
    obtain ⟨E, hE⟩ : ∃ E, E = (eachS M t 0).1 := ⟨_, rfl⟩
    have eE : (eachS a (s ++ t) 0).1 = E := by rw [happ, i1, hE, hM]
    rw [eE, ← hM]
    rw [← hM] at h1 h2' c2 g1 g2'
    rw [← hE] at g1 g2'
    have nM : names M = names a := by rw [hM]; exact eachS_names s a 0 c1
    have nE : names E = names M := by rw [hE]; exact eachS_names t M 0 c2
    obtain ⟨y, hy⟩ : ∃ y, y = netS 0 a M := ⟨_, rfl⟩
    rw [← hy]
    obtain ⟨z, hz⟩ : ∃ z, z = netS 0 M E := ⟨_, rfl⟩
    have yR : okT (fault a y) := by rw [hy]; exact net_right a M h1.symm
    have yM : edA y 0 a = M := by rw [hy]; exact net_makes a M h1.symm nM.symm
    have zR : okT (fault M z) := by rw [hz]; exact net_right M E g1.symm
    have zM : edA z 0 M = E := by rw [hz]; exact net_makes M E g1.symm nE.symm
    have ly : y.length ≤ 4 := by rw [hy]; have := net_len' a M 0; have := ha.1; omega
    have lz : z.length ≤ 4 := by rw [hz]; have := net_len' M E 0; have := h2'.1; omega
    have ty : txt y ≤ 8400 := by
      rw [hy]
      have := net_txt 2100 a M 0 (fun w hw => by have := h2'.2 w hw; omega)
      have := ha.1
      have e : ((2100 : Nat) : Int) * (a.length : Int) = 2100 * (a.length : Int) := rfl
      omega
    have tz : txt z ≤ 10800 := by
      rw [hz]
      have := net_txt 2700 M E 0 (fun w hw => by have := g2'.2 w hw; omega)
      have := h2'.1
      have e : ((2700 : Nat) : Int) * (M.length : Int) = 2700 * (M.length : Int) := rfl
      omega
    have hT := TApply_ev a y (by omega) 1500 ha (by omega) (by omega)
    rw [if_pos yR, yM] at hT
    have N3 : Ev (fun k => merge_Net.f k M t) (netA M t) := Net_ev M t (by omega) (fun L hL => mst L (List.mem_append_right _ hL)) 2100 h2' (by omega)
    rw [netA_ok c2, ← hE, ← hz] at N3
    have e2 : eachS a [y, z] 0 = (E, 0, 0, 0, 0) := by
      rw [eachS, if_pos yR, yM, eachS, if_pos zR, zM]
      rfl
    have N4 : Ev (fun k => merge_Net.f k a [y, z]) (netA a [y, z]) := Net_ev a [y, z] (by simp) (fun L hL => by
      rcases List.mem_cons.mp hL with rfl | hL
      · omega
      · rw [List.mem_singleton.mp hL]; omega) 1500 ha (by
      rw [txts_cons, txts_cons, show txts [] = 0 from rfl]
      omega)
    have c4 : okT (eachS a [y, z] 0).2.2 := by rw [e2]; rfl
    rw [netA_ok c4, e2] at N4
    refine Ev.step (fun k => by rw [oriellaw35_MergeOn.j1, if_neg (show ¬ ((!((0 : Int) == 0) || (!((0 : Int) == 0) || (!((0 : Int) == 0)))) = true) by decide)]) ?_
    refine Ev.bind (f := fun k t => _) hT ?_
    refine Ev.ite_neg (show ¬ (bad3 ((0 : Int), (0 : Int), (0 : Int)) = true) by decide) ?_
    refine Ev.bind (f := fun k t => _) N3 ?_
    refine Ev.bind (f := fun k t => _) N4 ?_
    refine Ev.ite_pos rfl (Ev.ite_pos rfl ?_)
    have lE := net_len' a E 0
    have la := ha.1
    exact Ev.bind (f := fun k t => _) (Changes_ev (netS 0 a E) (by omega)) (Ev.ite_pos rfl alive2)
  · refine Ev.ite_pos (show bad3 (netA a (s ++ t)).2.2 = true from bad_of (netA_bad c)) ?_
    exact j1_true a t _ _ (netA a (s ++ t)).2.2 (netA a s).2.2 (.inl (bad_of (netA_bad c)))
theorem MergeOn : oriellaw35_MergeOn.Pure := by
  intro a s t ga gs gt
  have la : a.length ≤ 9223372036854775807 := ga.1
  have ls : s.length ≤ 9223372036854775807 := gs.1
  have lt : t.length ≤ 9223372036854775807 := gt.1
  refine Ev.rounds ?_
  obtain ⟨u, hu1, hu2⟩ := few_ev a la
  obtain ⟨v, hv1, hv2⟩ := sfew_ev s ls
  obtain ⟨w, hw1, hw2⟩ := sfew_ev t lt
  unfold oriellaw35_MergeOn.f
  refine Ev.bind (f := fun k t => _) hu1 ?_
  cases u with
  | false => exact Ev.ite_neg (by decide) (no_ev a s t)
  | true =>
    refine Ev.ite_pos rfl ?_
    refine Ev.bind (f := fun k t => _) hv1 ?_
    cases v with
    | false => exact Ev.ite_neg (by decide) (no_ev a s t)
    | true =>
      refine Ev.ite_pos rfl ?_
      refine Ev.bind (f := fun k t => _) hw1 ?_
      cases w with
      | false => exact no_ev a s t
      | true => exact yes_ev a s t (hu2 rfl) (hv2 rfl) (hw2 rfl)
end Go.Proofs.Ytclcnglamlegiaa.Pure
