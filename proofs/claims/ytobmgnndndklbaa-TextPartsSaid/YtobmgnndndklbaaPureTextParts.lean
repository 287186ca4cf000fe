/- TextParts: which bytes of a text are there, and what they are, is as the document says. The pure statement, over lists and numbers. Conditions: none beyond what the arguments read as. -/
import Derived.Test.YtobmgnndndklbaaInTextParts
namespace Go.Proofs.Ytobmgnndndklbaa.Pure
set_option linter.unusedVariables false
set_option linter.unusedSimpArgs false
open Go.RowKit Go.Proofs.YtobmgnndndklbaaW.PrintWords Go.Proofs.YtobmgnndndklbaaW.PrintLast Go.Proofs.YtobmgnndndklbaaW.PrintMore Go.Proofs.Ytobmgnndndklbaa.PPt Go.Proofs.Ytobmgnndndklbaa.Frame

theorem holds_eq (a b c d : Int) : text_Holds.f a b c d = some (decide (a ≤ c ∧ d ≤ b)) := by
  unfold text_Holds.f
  by_cases h : c ≥ a
  · rw [if_pos h]
    have : a ≤ c := h
    simp [this]
  · rw [if_neg h]
    have : ¬ a ≤ c := h
    simp [this]
theorem meets_eq (a b c d : Int) : text_Meets.f a b c d = some (decide (a < b ∧ a < d ∧ c < b ∧ c < d)) := by
  unfold text_Meets.f
  congr 1
  rw [decide_eq_decide]
  unfold mx mn
  split <;> split <;> omega
theorem alive_ge (k : Nat) : oriellaw01_alive.f (20 + k) = some true := by
  induction k with
  | zero => kernel_rfl
  | succ k ih => exact oriellaw01_alive.mono _ _ ih
theorem alive_yes (k : Nat) (h : 20 ≤ k) : oriellaw01_alive.f k = some true := by
  have := alive_ge (k - 20)
  rwa [show 20 + (k - 20) = k by omega] at this
theorem wrap_id {x : Int} (h0 : -9223372036854775808 ≤ x) (h1 : x ≤ 9223372036854775807) : wrap64 x = x := by
  unfold wrap64
  omega
theorem right_eq (s : ByteArray) (a b : Int) : text_Right.f s a b = some (decide (0 ≤ a ∧ a ≤ b ∧ b ≤ s.size)) := by
  unfold text_Right.f
  by_cases h : a ≥ 0
  · rw [if_pos h]
    have h' : 0 ≤ a := h
    by_cases h2 : b ≥ a
    · rw [if_pos h2]
      have h2' : a ≤ b := h2
      simp [h', h2']
    · rw [if_neg h2]
      have h2' : ¬ a ≤ b := h2
      simp [h2']
  · rw [if_neg h]
    have h' : ¬ 0 ≤ a := h
    simp [h']
theorem part_yes (s : ByteArray) (a b : Int) (h : 0 ≤ a ∧ a ≤ b ∧ b ≤ s.size) : text_Part.f s a b = some (s.extract a.toNat b.toNat, 0) := by
  unfold text_Part.f
  rw [right_eq, Option.bind_some, if_pos (by simpa using h), if_pos h.1, if_pos h.2.1, if_pos h.2.2]
theorem part_no (s : ByteArray) (a b : Int) (h : ¬ (0 ≤ a ∧ a ≤ b ∧ b ≤ s.size)) : text_Part.f s a b = some (⟨#[]⟩, 2) := by
  unfold text_Part.f
  rw [right_eq, Option.bind_some, if_neg (by simpa using h)]
theorem cover_l0 (l : List S23) (hl : l.length ≤ 9223372036854775807) (d : Nat) : ∀ (k : Nat) (i c0 c1 : Int), 0 ≤ i → i ≤ l.length → (l.length : Int) - i = d → d < k →
    ∃ m M, text_Cover.l0 k l (l.length : Int) i c0 c1 = some (m, M, true) ∧ m ≤ c0 ∧ c1 ≤ M ∧ (∀ j, i ≤ j → j < l.length → m ≤ (rd_T23 l j).f0 ∧ (rd_T23 l j).f1 ≤ M) ∧
      (m = c0 ∨ ∃ j, i ≤ j ∧ j < l.length ∧ (rd_T23 l j).f0 = m) ∧ (M = c1 ∨ ∃ j, i ≤ j ∧ j < l.length ∧ (rd_T23 l j).f1 = M) := by
  induction d with
  | zero =>
    intro k i c0 c1 h0 h1 hd hk
    obtain ⟨k, rfl⟩ : ∃ m, k = m + 1 := ⟨k - 1, by omega⟩
    refine ⟨c0, c1, ?_, Int.le_refl _, Int.le_refl _, fun j _ _ => by omega, .inl rfl, .inl rfl⟩
    simp only [text_Cover.l0]
    rw [if_neg (by omega)]
  | succ d ih =>
    intro k i c0 c1 h0 h1 hd hk
    obtain ⟨k, rfl⟩ : ∃ m, k = m + 1 := ⟨k - 1, by omega⟩
    have hlt : i < (l.length : Int) := by omega
    obtain ⟨m, M, hr, e0, e1, e2, e3, e4⟩ := ih k (i + 1) (mn c0 (rd_T23 l i).f0) (mx c1 (rd_T23 l i).f1) (by omega) (by omega) (by omega) (by omega)
    have hmn : mn c0 (rd_T23 l i).f0 ≤ c0 ∧ mn c0 (rd_T23 l i).f0 ≤ (rd_T23 l i).f0 ∧ (mn c0 (rd_T23 l i).f0 = c0 ∨ mn c0 (rd_T23 l i).f0 = (rd_T23 l i).f0) := by
      unfold mn; split <;> omega
    have hmx : c1 ≤ mx c1 (rd_T23 l i).f1 ∧ (rd_T23 l i).f1 ≤ mx c1 (rd_T23 l i).f1 ∧ (mx c1 (rd_T23 l i).f1 = c1 ∨ mx c1 (rd_T23 l i).f1 = (rd_T23 l i).f1) := by
      unfold mx; split <;> omega
    generalize hu : mn c0 (rd_T23 l i).f0 = u at *
    generalize hv : mx c1 (rd_T23 l i).f1 = v at *
    refine ⟨m, M, ?_, by omega, by omega, fun j hj hj2 => ?_, ?_, ?_⟩
    · simp only [text_Cover.l0]
      rw [if_pos hlt, if_pos h0, if_pos hlt, wrap_id (by omega) (by omega), hu, hv]
      exact hr
    · by_cases hji : j = i
      · subst hji; omega
      · exact e2 j (by omega) hj2
    · rcases e3 with e3 | ⟨j, h3, h4, h5⟩
      · rcases hmn.2.2 with h | h
        · left; omega
        · right; exact ⟨i, Int.le_refl _, hlt, by omega⟩
      · right; exact ⟨j, by omega, h4, h5⟩
    · rcases e4 with e4 | ⟨j, h3, h4, h5⟩
      · rcases hmx.2.2 with h | h
        · left; omega
        · right; exact ⟨i, Int.le_refl _, hlt, by omega⟩
      · right; exact ⟨j, by omega, h4, h5⟩

theorem rright_eq (k : Nat) (s : ByteArray) (a b : Int) : orielref01_Right.f (k + 1) s a b = some (decide (0 ≤ a ∧ a ≤ b ∧ b ≤ s.size)) := by
  unfold orielref01_Right.f
  by_cases h : a < 0
  · rw [if_pos h]
    simp only [orielref01_Right.j0]
    have : ¬ 0 ≤ a := by omega
    simp [this]
  · rw [if_neg h]
    by_cases h2 : a > (s.size : Int)
    · rw [if_pos h2]
      simp only [orielref01_Right.j0]
      have : ¬ (0 ≤ a ∧ a ≤ b ∧ b ≤ s.size) := by omega
      simp [this]
    · rw [if_neg h2]
      simp only [orielref01_Right.j0]
      by_cases h3 : b > (s.size : Int)
      · have : ¬ (0 ≤ a ∧ a ≤ b ∧ b ≤ s.size) := by omega
        simp [h3, this]
      · rw [if_neg (by simpa using h3)]
        congr 1
        rw [decide_eq_decide]
        omega
theorem cover_two (k : Nat) (a b c d : Int) : text_Cover.f (k + 4) ([(⟨a, b⟩ : S23), (⟨c, d⟩ : S23)] : List S23) = some (mn a c, mx b d, true) := by
  obtain ⟨m, M, hr, e0, e1, e2, e3, e4⟩ := cover_l0 [(⟨a, b⟩ : S23), (⟨c, d⟩ : S23)] (by simp) 2 (k + 4) 0 a b (by omega) (by simp) (by simp) (by omega)
  have g0 : rd_T23 [(⟨a, b⟩ : S23), (⟨c, d⟩ : S23)] 0 = ⟨a, b⟩ := rfl
  have g1 : rd_T23 [(⟨a, b⟩ : S23), (⟨c, d⟩ : S23)] 1 = ⟨c, d⟩ := rfl
  have e : text_Cover.f (k + 4) [(⟨a, b⟩ : S23), (⟨c, d⟩ : S23)] = some (m, M, true) := by
    unfold text_Cover.f
    rw [if_neg (by simp), if_pos (by simp), g0]
    exact hr
  rw [e]
  have r0 := e2 0 (by omega) (by simp)
  have r1 := e2 1 (by omega) (by simp)
  rw [g0] at r0
  rw [g1] at r1
  have hm : m = mn a c := by
    have : m = a ∨ m = c := by
      rcases e3 with h | ⟨j, h1, h2, h3⟩
      · exact .inl h
      · have : j = 0 ∨ j = 1 := by simp at h2; omega
        rcases this with rfl | rfl
        · rw [g0] at h3; exact .inl h3.symm
        · rw [g1] at h3; exact .inr h3.symm
    have := r0.1
    have := r1.1
    simp only at *
    unfold mn
    split <;> omega
  have hM : M = mx b d := by
    have : M = b ∨ M = d := by
      rcases e4 with h | ⟨j, h1, h2, h3⟩
      · exact .inl h
      · have : j = 0 ∨ j = 1 := by simp at h2; omega
        rcases this with rfl | rfl
        · rw [g0] at h3; exact .inl h3.symm
        · rw [g1] at h3; exact .inr h3.symm
    have := r0.2
    have := r1.2
    simp only at *
    unfold mx
    split <;> omega
  rw [hm, hM]
theorem p_j2 (k : Nat) (hk : 20 ≤ k) (a b c d : Int) (m : Bool) (hm : m = decide (a < b ∧ a < d ∧ c < b ∧ c < d)) : oriellaw01_TextParts.j2 (k + 1) true false m a b c d (mn a c) (mx b d) = some true := by
  simp only [oriellaw01_TextParts.j2, holds_eq, meets_eq, Option.bind_some, ← hm]
  have last : ((oriellaw01_alive.f k).bind fun t => some t) = some true := by rw [alive_yes k hk]; rfl
  by_cases h : a ≤ c
  · rw [if_pos h, if_pos (by simp [h])]
    simp only [beq_self_eq_true, if_true, Bool.false_eq_true, if_false]
    exact last
  · rw [if_neg h, if_pos (by simp [h])]
    simp only [beq_self_eq_true, if_true, Bool.false_eq_true, if_false]
    exact last
theorem p_j1 (k : Nat) (hk : 30 ≤ k) (a b c d : Int) : oriellaw01_TextParts.j1 (k + 1) false a b c d = some true := by
  obtain ⟨k, rfl⟩ : ∃ m, k = m + 4 := ⟨k - 4, by omega⟩
  simp only [oriellaw01_TextParts.j1]
  rw [if_neg (by simp), cover_two k a b c d, show text_Cover.f (k + 4) ([] : List S23) = some (0, 0, false) from rfl]
  simp only [Option.bind_some]
  by_cases h1 : a < b
  · rw [if_pos h1]
    by_cases h2 : c < d
    · rw [if_pos h2]
      by_cases h3 : a < d
      · rw [if_pos h3]
        exact p_j2 (k + 3) (by omega) a b c d _ (by simp [h1, h2, h3])
      · rw [if_neg h3]
        exact p_j2 (k + 3) (by omega) a b c d _ (by simp [h3])
    · rw [if_neg h2]
      exact p_j2 (k + 3) (by omega) a b c d _ (by simp [h2])
  · rw [if_neg h1]
    exact p_j2 (k + 3) (by omega) a b c d _ (by simp [h1])
theorem TextParts : oriellaw01_TextParts.Pure := by
  intro s p q _ _ _
  refine ⟨300, ?_⟩
  unfold oriellaw01_TextParts.f
  by_cases h : (s.size : Int) > 3000
  · rw [if_pos h, alive_yes 300 (by omega)]; rfl
  · rw [if_neg h]
    by_cases r : 0 ≤ p.f0 ∧ p.f0 ≤ p.f1 ∧ p.f1 ≤ s.size
    · rw [part_yes s _ _ r, right_eq, rright_eq 299]
      simp only [Option.bind_some, oriellaw01_No.f, oriellaw01_TextParts.j0]
      rw [if_neg (by simp), if_neg (by simp [r]), if_pos trivial, if_neg (by simp), if_pos trivial, if_pos r.1, if_pos r.2.1, if_pos r.2.2]
      simp only [bne_self_eq_false]
      exact p_j1 298 (by omega) _ _ _ _
    · rw [part_no s _ _ r, right_eq, rright_eq 299]
      simp only [Option.bind_some, oriellaw01_No.f, oriellaw01_TextParts.j0]
      rw [if_neg (by simp), if_neg (by simp [r]), if_neg (by omega), if_pos trivial, if_neg (by simp), if_neg (by omega)]
      exact p_j1 298 (by omega) _ _ _ _

end Go.Proofs.Ytobmgnndndklbaa.Pure
