/- What names are bound to behind an open: the law's plain part: what is asked of their sizes comes to an end; their rows are within the form's reach. Conditions: the lengths are within the bound. -/
import Derived.Test.YtkdfbfhajojdeaaInEnvOpens
namespace Go.Proofs.Ytkdfbfhajojdeaa.Pure
open Go Go.RowKit Go.Proofs.Ytkdfbfhajojdeaa.POP Go.Proofs.YtkdfbfhajojdeaaW.PrintWords Go.Proofs.YtkdfbfhajojdeaaW.PrintLast Go.Proofs.Ytkdfbfhajojdeaa.Env Go.Proofs.Ytkdfbfhajojdeaa.Frame
set_option linter.unusedVariables false
set_option linter.unusedSimpArgs false
theorem bytes26 : Try.prog.bytesOf 26 = 88 := by kernel_rfl
theorem goodT_of {x : S26} (h : Good26 x) : GoodT x := by
  induction h with
  | mk x a b c d l4 _ l5 _ i4 i5 =>
    rw [bytes26] at l4 l5
    unfold reachBytes at l4 l5
    exact GoodT.mk x ⟨a, b⟩ (by omega) i4 (by omega) i5
theorem goodL_of {l : List S26} (h : inW (Try.prog.bytesOf 26) good26 l) : GoodL l := by
  have h1 := h.1
  rw [bytes26] at h1
  unfold reachBytes at h1
  exact ⟨by omega, fun x hx => goodT_of (h.2 x hx)⟩
theorem size_ev : ∀ (n : Nat) (l : List S26), SizeOf.sizeOf l < n → GoodL l → ∀ most, ∃ r, Ev (fun k => orielref11_Size.f k l most) r
  | 0, l, h, _, _ => absurd h (Nat.not_lt_zero _)
  | n + 1, l, hn, hg, most => by
    have loop : ∀ (r pre : List S26), l = pre ++ r → ∀ x5, ∃ R, Ev (fun k => orielref11_Size.l0 k l most x5 (pre.length : Int)) R := by
      intro r
      induction r with
      | nil =>
        intro pre he x5
        have q : ¬ ((pre.length : Int) < (l.length : Int)) := by rw [he]; simp
        exact ⟨x5, Ev.step (fun k => by rw [orielref11_Size.l0, if_neg q]) (Ev.step (g := fun k => orielref11_Size.j1 k l most x5 (pre.length : Int) false) (f := fun _ => some x5) (fun k => by rw [orielref11_Size.j1, if_neg (by decide)]) (Ev.now x5))⟩
      | cons x r ih =>
        intro pre he x5
        have hlen : l.length = pre.length + 1 + r.length := by rw [he]; simp only [List.length_append, List.length_cons]; omega
        have q1 : (pre.length : Int) < (l.length : Int) := by omega
        have q2 : (0 : Int) ≤ (pre.length : Int) := by omega
        have hmem : x ∈ l := by rw [he]; simp
        have hr : rd_T26 l (pre.length : Int) = x := by
          unfold rd_T26
          rw [he, Int.toNat_natCast, List.getD_eq_getElem?_getD, List.getElem?_append_right (Nat.le_refl _), Nat.sub_self]
          rfl
        have hgl := hg.1
        have ew : wrap64 ((pre.length : Int) + 1) = ((pre ++ [x]).length : Int) := by
          rw [wid (by omega) (by omega), List.length_append]
          rfl
        have hsz := List.sizeOf_lt_of_mem hmem
        have z4 := sz4 x
        have z5 := sz5 x
        by_cases c : x5 ≤ most
        · obtain ⟨ra, ha⟩ := size_ev n x.f4 (by omega) (hg.2 x hmem).p4 (wrap64 (most - x5))
          obtain ⟨rb, hb⟩ := size_ev n x.f5 (by omega) (hg.2 x hmem).p5 (wrap64 (most - x5))
          obtain ⟨R, hR⟩ := ih (pre ++ [x]) (by rw [he, List.append_assoc]; rfl) (wrap64 ((wrap64 ((wrap64 (x5 + 1)) + ra)) + rb))
          refine ⟨R, Ev.step (fun k => by rw [orielref11_Size.l0, if_pos q1, decide_eq_true c]) (Ev.step (g := fun k => orielref11_Size.j1 k l most x5 (pre.length : Int) true) (fun k => by rw [orielref11_Size.j1, if_pos rfl, if_pos q2, if_pos q1, hr, ew]) (Ev.bind ha (Ev.bind hb hR)))⟩
        · exact ⟨x5, Ev.step (fun k => by rw [orielref11_Size.l0, if_pos q1, decide_eq_false c]) (Ev.step (g := fun k => orielref11_Size.j1 k l most x5 (pre.length : Int) false) (f := fun _ => some x5) (fun k => by rw [orielref11_Size.j1, if_neg (by decide)]) (Ev.now x5))⟩
    obtain ⟨R, hR⟩ := loop l [] rfl 0
    exact ⟨R, Ev.step (fun k => by rw [orielref11_Size.f]; rfl) hR⟩
theorem EnvOpens : oriellaw11_EnvOpens.Pure := by
  intro a0 a1 a2 h0 h1 n0 n1
  have g0 := goodL_of h0
  have g1 := goodL_of h1
  obtain ⟨r0, e0⟩ := size_ev _ a0 (Nat.lt_succ_self _) g0 120
  obtain ⟨r1, e1⟩ := size_ev _ a1 (Nat.lt_succ_self _) g1 120
  have key : Ev (fun k => (orielref11_Size.f k a0 120).bind fun _ => (orielref11_Size.f k a1 120).bind fun _ => some true) true :=
    Ev.bind (f := fun k _ => (orielref11_Size.f k a1 120).bind fun _ => some true) e0 (Ev.bind (f := fun _ _ => some true) e1 (Ev.now true))
  obtain ⟨k, hk⟩ := key.rounds
  refine ⟨k, ?_⟩
  show Opens.lawF k a0 a1 a2 = some true
  unfold Opens.lawF
  have g : GoodL a0 ∧ GoodL a1 ∧ a0.length + a1.length ≤ 1599289640000 := ⟨g0, g1, by omega⟩
  simp only [if_pos g]
  exact hk
end Go.Proofs.Ytkdfbfhajojdeaa.Pure
