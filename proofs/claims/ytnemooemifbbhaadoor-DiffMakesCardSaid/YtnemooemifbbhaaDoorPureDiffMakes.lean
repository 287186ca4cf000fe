/- Which lines two texts have in common, and which edits turn the one into the other one, is as the document says: the plain law. Conditions: none beyond what the arguments read as. -/
import Derived.Test.YtnemooemifbbhaaDoorDmA
import Derived.Test.YtnemooemifbbhaaDoorInDiffMakes
namespace Go.Proofs.YtnemooemifbbhaaDoor.Pure
open Go.RowKit Go.Proofs.YtnemooemifbbhaaDoor.PDM Go.Proofs.YtnemooemifbbhaaDoorW.PrintWords Go.Proofs.YtnemooemifbbhaaDoorW.PrintLast Go.Proofs.YtnemooemifbbhaaDoor.Dm
set_option linter.unusedVariables false
set_option linter.unusedSimpArgs false
theorem Texts_l0 (l : List ByteArray) (hl : l.length ≤ 2000000) : ∀ (d i : Nat), i + d = l.length → Ev (fun k => orielref04_Texts.l0 k l l (i : Int)) true := by
  intro d
  induction d with
  | zero =>
    intro i h
    have q1 : ¬ ((i : Int) < (l.length : Int)) := by omega
    refine Ev.step (f := fun _ => some true) (fun k => ?_) (Ev.now _)
    rw [orielref04_Texts.l0, if_neg q1]
  | succ d ih =>
    intro i h
    have q1 : (i : Int) < (l.length : Int) := by omega
    have q2 : (0 : Int) ≤ (i : Int) := Int.natCast_nonneg _
    refine Ev.step (fun k => ?_) (ih (i + 1) (by omega))
    rw [orielref04_Texts.l0, if_pos q1, if_pos q2, if_pos q1, if_pos rfl, wsucc i (by omega)]
theorem Texts_ev (l : List ByteArray) (hl : l.length ≤ 2000000) : Ev (fun k => orielref04_Texts.f k l l) true := by
  unfold orielref04_Texts.f
  exact Ev.ite_pos rfl (Texts_l0 l hl l.length 0 (by omega))
theorem Pairs_l0 (l : List S36) (hl : l.length ≤ 2000000) : ∀ (d i : Nat), i + d = l.length → Ev (fun k => orielref12_Pairs.l0 k l l (i : Int)) true := by
  intro d
  induction d with
  | zero =>
    intro i h
    have q1 : ¬ ((i : Int) < (l.length : Int)) := by omega
    refine Ev.step (f := fun _ => some true) (fun k => ?_) (Ev.now _)
    rw [orielref12_Pairs.l0, if_neg q1]
  | succ d ih =>
    intro i h
    have q1 : (i : Int) < (l.length : Int) := by omega
    have q2 : (0 : Int) ≤ (i : Int) := Int.natCast_nonneg _
    refine Ev.step (fun k => ?_) (ih (i + 1) (by omega))
    rw [orielref12_Pairs.l0, if_pos q1, if_pos q2, if_pos q1, if_neg (by simp), wsucc i (by omega)]
theorem Pairs_ev (l : List S36) (hl : l.length ≤ 2000000) : Ev (fun k => orielref12_Pairs.f k l l) true := by
  unfold orielref12_Pairs.f
  exact Ev.ite_pos rfl (Pairs_l0 l hl l.length 0 (by omega))
theorem no_ev (s t : ByteArray) : Ev (fun k => oriellaw27_DiffMakes.j0 k s t true) true := by
  refine Ev.step (f := fun k => (oriellaw27_alive.f k).bind fun t216 => some t216) (fun k => by rw [oriellaw27_DiffMakes.j0, if_pos rfl]) ?_
  exact Ev.bind (f := fun k b => some b) alive_ev (Ev.now _)
theorem yes_ev (s t : ByteArray) (hs : s.size ≤ 400) (ht : t.size ≤ 400) : Ev (fun k => oriellaw27_DiffMakes.j0 k s t false) true := by
  have hs9 : s.size ≤ 900000 := by omega
  have ht9 : t.size ≤ 900000 := by omega
  have la := lines_len s
  have lb := lines_len t
  have hp := greedy_short (lines s) (lines t)
  have hc : diff_Common.f (lines s) (lines t) = some (Fill.pairs (lines s) (lines t)) := by
    unfold diff_Common.f
    rw [if_pos ⟨by omega, by omega⟩]
  refine Ev.step (fun k => by rw [oriellaw27_DiffMakes.j0, if_neg (show ¬ (false = true) by decide)]) ?_
  refine Ev.bind (f := fun k a => _) (Lines_ev s hs9) (Ev.bind (f := fun k a => _) (Lines_ev t ht9) (Ev.bind (f := fun k a => _) (RLines_ev s hs9) (Ev.bind (f := fun k a => _) (Texts_ev (lines s) (by omega)) (Ev.ite_pos rfl ?_))))
  refine Ev.bind (f := fun k a => _) (RLines_ev s hs9) (Ev.bind (f := fun k a => _) (RLines_ev t ht9) ?_)
  simp only [hc, Option.bind_some]
  refine Ev.bind (f := fun k a => _) (RLines_ev s hs9) (Ev.bind (f := fun k a => _) (RLines_ev t ht9) (Ev.bind (f := fun k a => _) (RCommon_ev (lines s) (lines t) (by omega) (by omega)) ?_))
  refine Ev.bind (f := fun k a => _) (Pairs_ev (Fill.pairs (lines s) (lines t)) (by unfold Fill.pairs; rw [List.length_map]; omega)) (Ev.ite_pos rfl ?_)
  refine Ev.bind (f := fun k a => _) (RLines_ev t ht9) (Ev.bind (f := fun k a => _) (Texts_ev (lines t) (by omega)) (Ev.ite_pos rfl ?_))
  refine Ev.bind (f := fun k a => _) (Edits_ev s t hs9 ht9) (Ev.bind (f := fun k a => _) (REdits_ev s t hs9 ht9) (Ev.bind (f := fun k a => _) (Same_ev (edits s t) (by have := edits_len s t; omega)) (Ev.ite_pos rfl ?_)))
  exact Ev.bind (f := fun k b => some b) alive_ev (Ev.now _)
theorem DiffMakes : oriellaw27_DiffMakes.Pure := by
  intro s t hs ht
  refine Ev.rounds ?_
  unfold oriellaw27_DiffMakes.f oriellaw27_few.f
  simp only [Option.bind_some]
  by_cases c : (s.size : Int) ≤ 400
  · refine Ev.ite_pos (decide_eq_true c) ?_
    by_cases d : (t.size : Int) ≤ 400
    · rw [decide_eq_true d]
      exact yes_ev s t (by omega) (by omega)
    · rw [decide_eq_false d]
      exact no_ev s t
  · refine Ev.ite_neg (fun e => c (of_decide_eq_true e)) ?_
    exact no_ev s t
end Go.Proofs.YtnemooemifbbhaaDoor.Pure
